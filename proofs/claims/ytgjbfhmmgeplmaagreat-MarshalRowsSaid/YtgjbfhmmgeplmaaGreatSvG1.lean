/- Texts of the evaluator, of the logic over it, of plain arithmetic. -/
import Derived.Test.YtgjbfhmmgeplmaaGreatSvG0
import Derived.Orders
import Derived.WalkKit
import Derived.ProofKit
import Derived.OpenShut
set_option linter.unusedSimpArgs false
set_option linter.defProp false
namespace Go.Sv
variable{g j D:Nat}{z:Program}{C:World}{L vK:Bool}{V:Option Nat}{Z:List Nat}{v9:Type}{v8:Array Value}{vL:List Value}{vI:Code}{B U:Heap}{E vQ:AV}{I vV:Tr AV}{K:List AV}{F:CM}
section
open Go.RowKit (Below)
def w9(g:AObj):Prop:=∀z j w o,(∀v,j.f o v=none)→O2 z j w o g
def s9(D:Program)(E:CM)(w:World)(z:Sem Next)(v:AV)(A:AObj):Prop :=
 ∃g n B x,z.run D w=.ok (.value x) (w.alloc g)∧∀(j:CM) (id:Nat),E.keep j→j id 0=some ⟨w.heap.size,0,n,B⟩ →
  VR j (Pm id v) x∧∀C,C≤w.heap.size→O2 C j (w.alloc g) id A
def jw(D:Program)(E:Tr AV)(A:Heap)(j:(Operand→Value)→Sem Next):OR→Prop
 |.no=>True
 |.val v z=>∃g,True∧z=A.push g∧Nk v=some A.next∧w9 g∧∀B w C,mf B E C→s9 D B w (j C) v g
 |.call _ _=>False
def Mk(A:Program)(B:OpF)(g:(Operand→Value)→Sem Next):Prop:=∀j z,jw A j z g (B.run j z)
def Mk.congr{P:Program}{F:OpF}{nx gg:(Operand→Value)→Sem Next}(h:∀ρ,nx ρ=gg ρ)(s:Mk P F nx):Mk P F gg:=by
 rw[show gg=nx from funext λρ=>(h ρ).symm];exact s
def bg(j:Program)(g:(Operand→Value)→Sem Next):Mk j Nj g:=λ_ _=>trivial
def zbk{l:List AV}{o:Nat}(h:newObj B l=some (o,U)):True∧True∧o=B.next∧U=B.push (.cells (O8 l 0 .e) l.length 0 false):=by
 unfold newObj at h;cases h;exact⟨trivial,trivial,rfl,rfl⟩
def zjb{l:List AV}(_:True):w9 (.cells (O8 l 0 .e) l.length 0 false):=λz A w o j=>λB g=>by rw[j]at g;cases g
def Xm{w:World}{l:List AV}{t:TypeId}(_hl:True)(E:VRs F l v8.toList)(K:∀a∈l,a.one=true){G:Sem Next}{v:AV}{x:Value}
  (B:G.run z w=.ok (.value x) (w.alloc (.cells v8 t))) (L:∀(A:CM) (id:Nat),A id 0=some ⟨w.heap.size,0,l.length,v8.size⟩→VR A (Pm id v) x) :
  s9 z F w G v (.cells (O8 l 0 .e) l.length 0 false):=by
 have g:l.length=v8.toList.length:=E.length;have C:l.length=v8.size:=Cb
 refine⟨_,l.length,v8.size,x,B,λA id M H=>⟨L A id H,λR O=>λS j=>?_⟩⟩;rw[H]at j;cases j;refine⟨rfl,λ_=>O,B1,v8,t,0,0,Wl _ _,Ie _,λi _ _=>J,?_⟩;intro k D;rw[get_ofList l 0 .e k,Ih J];obtain⟨a,v,I,P,Q⟩:=E.get' (i:=k) D;refine⟨a,by simpa using I,K a (I8 I),v,?_,Q.mono' M⟩;simpa using P
def zm5{l:List AV}{A:(Operand→Value)→Sem Next}{t:TypeId}
  (g:∀C w E,mf C I E→∃j:Array Value,VRs C l j.toList∧(∀a∈l,a.one=true)∧(A E).run z w=.ok (.value (.pointer (some ⟨w.heap.size,0,none⟩))) (w.alloc (.cells j t))) :
  jw z I B A (Uq B l):=by
 unfold Uq;split
 ·rename_i o P F;obtain⟨G,D,rfl,rfl⟩:=zbk F;refine⟨_,G,rfl,rfl,zjb D,λC w E H=>?_⟩;obtain⟨j,K,L,M⟩:=g C w E H;refine Xm D K L M (λQ id O=>?_);simpa [Pm] using VR.ptr (i:=0) O
 ·exact trivial
def Yw(g:Program)(t:TypeId):Mk g (Nq g (.alloc t)) (λ_=>do pure (.value (←Instr.alloc t true (.tuple #[])))):=by
 intro F j;show jw g F j _ (OpF.run (match Rc g t with
  |some l=>⟨λ_ j=>Uq j l⟩
  |none=>Nj) F j)
 cases z:Rc g t with
 |none=>exact trivial
 |some l =>
  refine zm5 (t:=t) (λG w L H=>?_);obtain⟨v,i,A,B,I,K⟩:=kh (w:=w) z;obtain⟨D,E⟩:=Vt (C:=G) B;exact⟨v.cells,D,E,by simp[Instr.alloc,A,newVar,newRow]⟩
def zmz{x:Operand}{f:Heap→AV→OR}{g:(Operand→Value)→Sem Next}(h:∀j A a,(M7 x).run j=some a→jw z j A g (f A a)):Mk z (Pa x f) g:=by
 intro j A;show jw z j A g (Option.rec OR.no (λa=>f A a) ((M7 x).run j));cases B:(M7 x).run j with
 |none=>exact trivial
 |some a=>exact h _ _ _ B
def zro{x y:Operand}{f:Heap→AV→AV→OR}{j:(Operand→Value)→Sem Next}(h:∀g A a b,(M7 x).run g=some a→(M7 y).run g=some b→jw z g A j (f A a b)):Mk z (Rs x y f) j:=by
 intro g A;show jw z g A j (Option.rec OR.no (λa=>Option.rec OR.no (λb=>f A a b) ((M7 y).run g)) ((M7 x).run g));cases B:(M7 x).run g with
 |none=>exact trivial
 |some a =>
  cases C:(M7 y).run g with
  |none=>exact trivial
  |some b=>exact h _ _ _ _ B C
def tb(C:Program)(t:TypeId)(x:Operand):Mk C (Nq C (.box t x)) (λD=>do pure (.value (←Instr.box t (D x)))):=by
 refine zmz λE F a g=>?_
 cases j:a.cells with
 |none=>exact trivial
 |some l =>
  refine zm5 (t:=t) (λG w D z=>?_);obtain⟨A,B⟩:=(z _ _ g).cells j;exact⟨_,A,B,by simp[Instr.box,newVar,newRow]⟩
def zqh{C:CM}{w:World}(t:TypeId){l:List AV}{o len esz:Nat}{cs:Array Value}(_hl:True)(D:VRs C l cs.toList)(G:∀a∈l,a.one=true){cap:Nat}(K:cap*esz=l.length)(g:len≤cap)
  {E:Sem Next} (A:E.run z w=.ok (.value (.slice (some ⟨w.heap.size,0,none⟩) len cap)) (w.alloc (.cells cs t))):s9 z C w E (.sl o 0 0 len esz (some cap)) (.cells (O8 l 0 .e) l.length 0 false):=by
 have j:l.length=cs.toList.length:=D.length;have B:l.length=cs.size:=Bt
 have F:len*esz≤cap*esz:=Im _ g;refine Xm _hl D G A (λL id H=>?_);have:=VR.sl (i:=0) (len:=len) (esz:=esz) (room:=some cap) (cap:=cap) H B1 B1 g (λr I=>by cases I;exact⟨rfl,B1⟩) (λh=>Ak);simpa [Pm] using this
def zjc(G:Program)(t:TypeId)(len:Nat)(j:Array (Nat×Operand)) :
  Mk G (jf G t len j) (λV=>do pure (.value (←Instr.buildSlice t len (j.map λ(i,x)=>(i,V x))))):=by
 unfold jf;split
 ·rename_i A hu;split
  ·exact bg G _
  ·rename_i g F;split
   ·exact bg G _
   ·rename_i gj X;split
    ·rename_i z;obtain⟨Y,P⟩:=z;split
     ·exact bg G _
     ·rename_i ps H;intro gB gC;dsimp only;split
      ·rename_i l Z;split
       ·rename_i o H' hn;obtain⟨n1,Q,rfl,rfl⟩:=zbk hn;refine⟨_,n1,rfl,rfl,zjb Q,λC w V hρ=>?_⟩;obtain⟨v,i,h1,h2,h3,h4⟩:=kh (w:=w) X;obtain⟨I,k2⟩:=Vt (C:=C) h2;have K:v.cells.size=g:=by
         have B:=I.length;unfold Oi at F;rw[h3]at F;simp at F B;omega
        have gg:gj.length=g:=by have B:=I.length;simp at B;omega
        have D:VRs C (Ry gj len) ((Array.range (len*g)).map λi=>v.cells[i%v.cells.size]!).toList:=by
         rw[←K,u9];exact ta I len
        obtain⟨R,S,T,q3⟩:=vq H hρ Z D (tk k2 len);have L:l.length=len*g:=by
         have B:=T.length;have e3:=zfe S;simp at e3 B;omega
        refine zqh A Q T q3 L.symm (Ie _) ?_;have U:Instr.fill (λi=>some (i*g,g)) ((Array.range (len*g)).map λi=>v.cells[i%v.cells.size]!) (j.map λ(i,x)=>(i,V x)).toList=some R:=by
         rw[Jz];exact S
        have E:¬(len*g>2^24):=J
        simp only[Instr.buildSlice,Sem.run_bind,Nv hu,Rg F,Result.andThen_ok,Sem.run_ite,Ig E];by_cases M:len*g=0
        ·rw[Ih M];have O:Instr.fill (λi=>some (i*g,g)) ((Array.range (len*g)).map λi=>(#[]:Array Value)[i%(#[]:Array Value).size]!) (j.map λ(i,x)=>(i,V x)).toList=some R:=by
          rw[←U,M,lw,lw]
         simp only[Sem.run_pure,Result.andThen_ok,O,newRow,Sem.run_bind,run_newObj];rfl
        ·rw[Ig M];simp only[Sem.run_bind,h1,Sem.run_pure,Result.andThen_ok,U,newRow,run_newObj];rfl
       ·exact trivial
      ·exact trivial
    ·exact bg G _
 ·exact bg G _
def zrw(A:Program)(t:TypeId)(l c:Operand):Mk A (jx A t l c) (λO=>do pure (.value (←Instr.makeSlice t (O l) (O c)))):=by
 unfold jx;split
 ·rename_i g hu;split
  ·exact bg A _
  ·rename_i i hi;split
   ·exact bg A _
   ·rename_i gg X;split
    ·rename_i j;obtain⟨P,B⟩:=j;refine zro λgj gB a b D E=>?_
     split
     ·rename_i x y;split
      ·rename_i F;split
       ·rename_i Y;split
        ·rename_i o H' Z;obtain⟨n1,Q,rfl,rfl⟩:=zbk Z;refine⟨_,n1,rfl,rfl,zjb Q,λC w O R=>?_⟩;have S:=R _ _ D;have T:=R _ _ E;have z:x≤y:=Ik F;have G:y≤1048576:=Ik Y;obtain⟨v,gC,h1,h2,U,h4⟩:=kh (w:=w) X;obtain⟨V,k2⟩:=Vt (C:=C) h2;rw[hi]at U;cases U;have H:v.cells.size=i.size:=by have I:=V.length;simp at I;omega
         generalize K:O l=pl at S;generalize L:O c=pc at T;cases S;cases T;refine zqh g Q (cs:=(Array.range (y*i.size)).map λk=>v.cells[k%v.cells.size]!) (by rw[←H,u9];exact ta V y) (tk k2 y) (by rw[z56,h4]) z ?_;have I:IntKind.i64.wrap (Int.ofNat x)=Int.ofNat x:=Ao
         have e2:IntKind.i64.wrap (Int.ofNat y)=Int.ofNat y:=Ao
         have e3:i.bytes*y≤65536*1048576:=K4 B G;have e4:¬((decide (Int.ofNat y<0) || decide ((i.bytes:Int)*Int.ofNat y>2^48) || decide (Int.ofNat x<0) || decide (Int.ofNat x>Int.ofNat y))=true):=by
          have e5:((i.bytes:Int)*Int.ofNat y)=((i.bytes*y:Nat):Int):=N
          rw[e5];simp only[Jx,Ii,not_or];refine⟨⟨⟨N,Ab⟩,N⟩,Ab⟩
         simp only[Instr.makeSlice,K,L,Sem.run_bind,Nv hu,bi hi,asInt,asIntOf,Sem.run_pure,Result.andThen_ok,I,e2,Sem.run_ite,Ig e4,run_askRoom,Rg (show Oi A g=some i.size from Fk)];have e6:(Int.ofNat y).toNat=y:=rfl;have e7:(Int.ofNat x).toNat=x:=rfl;rw[e6,e7];by_cases M:y*i.size=0
         ·rw[Ih M];simp only[Sem.run_pure,Result.andThen_ok,newRow,Sem.run_bind,run_newObj];have:((Array.range (y*i.size)).map λk=>(#[]:Array Value)[k%(#[]:Array Value).size]!)=((Array.range (y*i.size)).map λk=>v.cells[k%v.cells.size]!):=by rw[M,lw,lw]
          rw[this];rfl
         ·rw[Ig M];simp only[Sem.run_bind,h1,Sem.run_pure,Result.andThen_ok,newRow,run_newObj];rfl
        ·exact trivial
       ·exact trivial
      ·exact trivial
     ·exact trivial
    ·exact bg A _
 ·exact bg A _
def ziu{C:(Operand→Value)→Sem Next}
  (A:∀(D:CM) w E,mf D I E→(C E).run z w=.ok (.value (.map (some w.heap.size))) (w.alloc (.map #[] 0))):jw z I B C (Vh B):=by
 unfold Vh;refine⟨_,trivial,rfl,rfl,λK D w o F L g=>(by rw[F]at g;cases g),λD w E G=>?_⟩;refine⟨_,0,0,_,A D w E G,λM id O g=>⟨.map g,λK H L j=>?_⟩⟩;rw[g]at j;cases j;exact⟨H,#[],Wl _ _,.nil⟩
def Zi(z:Program)(t:TypeId)(r:Option Operand):Mk z (jv z t r) (λj=>do pure (.value (←Instr.makeMap t (r.map j)))):=by
 unfold jv;split
 ·intro C D;exact ziu (λE w j g=>by simp[Instr.makeMap])
 ·rename_i x;split
  ·rename_i k e hu;refine zmz λC D a A=>?_
   split
   ·refine ziu (λE w j g=>?_);have:=g _ _ A;generalize B:j x=F at this;cases this;simp[Instr.makeMap,Nv hu,B,asInt,asIntOf]
   ·exact trivial
  ·exact bg z _
def zpg{P:Program}{o:Oper}(h:cls P o.op=.al):Mk P (Nq P o.op) (λj=>execOp j o):=by
 generalize g:o.op=op at h;cases op with
 |alloc t=>exact Mk.congr (λj=>by simp only[execOp,g]) (Yw P t)
 |box t x=>exact Mk.congr (λj=>Ai) (tb P t x)
 |buildSlice t n z=>exact Mk.congr (λj=>Ai) (zjc P t n z)
 |makeMap t r=>exact Mk.congr (λj=>Ai) (Zi P t r)
 |makeSlice t l c=>exact Mk.congr (λj=>Ai) (zrw P t l c)
 |slice t _ _ _ _=>simp only[cls]at h;split at h<;>cases h
 |convert s d x=>simp only[cls]at h;split at h<;>first|(cases h;done)|(split at h<;>cases h)
 |call c =>
  simp only[cls,ve]at h;split at h
  ·split at h
   ·split at h<;>cases h
   ·cases h
  all_goals cases h
 |_=>cases h
def CM.lift(C:CM)(n:Nat):CM:=⟨C.f,n⟩
def CM.le_lift{C:CM}{n:Nat}(h:C.nx≤n):C.le (C.lift n):=⟨λ_ _ _ h=>h,h,λ_ v L h=>.inl ⟨v,L,h⟩⟩
inductive Ups:Heap→Heap→Prop where
 |refl (H:Heap):Ups H H
 |push {H H':Heap} {ob:AObj} (hl:True) (hf:w9 ob) (h:Ups (H.push ob) H'):Ups H H'
def Ups.next{H H':Heap}(h:Ups H H'):H.next≤H'.next:=by
 induction h with
 |refl=>exact Ie _
 |push _ _ _ ih=>exact I5 (K9 _) ih
def Rel.up{gj:CM}{H:Heap}{w:World}(h:Rel C gj H w)(_:True){ob:AObj}(hf:w9 ob):Rel C (gj.lift (H.next+1)) (H.push ob) w:=by
 have hle:gj.le (gj.lift (H.next+1)):=CM.le_lift (by rw[h.nx];exact K9 _);refine⟨rfl,h.low,λo v L hL=>?_,h.lt,h.excl,?_,?_⟩
 ·show o<H.next+1;have:=h.fresh o v L hL;omega
 ·intro o gB ho hg;by_cases e:o=H.next
  ·subst e;rw[Heap.get_push_same]at hg;cases hg;exact hf _ _ _ _ (λv=>h.next_none v)
  ·have gg:o<H.next:=Bu
   rw[Heap.get_push_ne _ _ gg]at hg;exact (h.obj _ _ gg hg).frame hle (λv L hL=>hL) (λv L hL=>rfl)
 ·intro o c len gC ro ho hg v L hL;by_cases e:o=H.next
  ·subst e;have:=h.fresh _ _ _ hL;omega
  ·have gg:o<H.next:=Bu
   rw[Heap.get_push_ne _ _ gg]at hg;exact h.top _ _ _ _ _ gg hg _ _ hL
def Rel.ups{H:Heap}{w:World}(hu:Ups H U):∀{gg:CM},Rel C gg H w→Rel C (gg.lift U.next) U w:=by
 induction hu with
 |refl H=>intro gg h;rw[←h.nx];exact h
 |push hl hf _ ih =>
  intro gg h;have h1:=h.up hl hf;have h2:=ih h1;exact h2
def zme{c:Tr AV}{len:Nat}(h:znv c I len=true):∀j,j<len→Mz (M6 j) c=Mz (M6 j) I:=by
 unfold znv at h;split at h
 ·rename_i l C D E;obtain⟨M,F⟩:=aj D;obtain⟨O,G⟩:=aj E;have H:l=C:=by
   have:∀(x y:List AV),Wh (Qh 30) x y=true→x=y:=by
    intro x
    induction x with
    |nil=>intro y g;cases y with
     |nil=>rfl
     |cons _ _=>cases g
    |cons c x K =>
     intro y g;cases y with
     |nil=>cases g
     |cons d y =>
      simp only[Wh]at g;split at g
      ·rename_i L;rw[eqAV_spec 30 c d L,K y g]
      ·cases g
   exact this _ _ h
  intro j z;have A:=F j z;have B:=G j z;rw[I7]at A B;rw[A,B,H]
 ·cases h
def O2.eqObj{B:Nat}{gC:CM}{w:World}{o:Nat}{a b:AObj}(h:Sv.eqObj a b=true)(k:O2 B gC w o b):O2 B gC w o a:=by
 unfold Sv.eqObj at h;split at h
 ·rename_i c len gB ro c' gg gj C;simp only[H7]at h;obtain⟨⟨⟨h1,h2⟩,h3⟩,h4⟩:=h;obtain rfl:=Ic h1;obtain rfl:=Ic h2;obtain rfl:ro=C:=by simpa using h3
  intro L hL;obtain⟨p1,p2,p3,vs,e,lo,hi,p4,p5,p6,p7⟩:=k L hL;exact⟨p1,p2,p3,vs,e,lo,hi,p4,p5,p6,λi hi=>by rw[zme h4 i hi];exact p7 i hi⟩
 ·obtain rfl:=Ic h;exact k
 ·cases h
def zi4{b:Bool}{x y:v9}(g:b=true→x=y)(h:U7 b x y=true):x=y:=by
 unfold U7 at h;split at h
 ·exact g rfl
 ·exact @Ku _ (Classical.propDecidable _) h
def Xn{b:Bool}{x y:v9}(h:U7 b x y=true):b=true∨x=y:=by
 unfold U7 at h;split at h
 ·exact .inl rfl
 ·exact .inr (@Ku _ (Classical.propDecidable _) h)
def O2.same{B:Nat}{C:CM}{w:World}{o:Nat}{a b:AObj}(h:U7 (Sv.eqObj a b) a b=true)(k:O2 B C w o b):O2 B C w o a:=by
 rcases Xn h with h|h
 ·exact k.eqObj h
 ·rw[h];exact k
def Rel.bind{gD:CM}{H:Heap}{w:World}(h:Rel C gD H w){id n sz:Nat}(gF:id<H.next)(hn:∀v,gD id v=none){ob:AObj}(hg:H.get id=some ob)(gB:Obj)
  (gE:O2 C.heap.size (gD.ext id 0 ⟨w.heap.size,0,n,sz⟩) (w.alloc gB) id ob):Rel C (gD.ext id 0 ⟨w.heap.size,0,n,sz⟩) H (w.alloc gB)∧gD.keep (gD.ext id 0 ⟨w.heap.size,0,n,sz⟩):=by
 have hk:gD.keep (gD.ext id 0 ⟨w.heap.size,0,n,sz⟩):=λo' v' L' h'=>by
  by_cases e:o'=id∧v'=0
  ·obtain⟨rfl,rfl⟩:=e;rw[hn]at h';cases h'
  ·rw[CM.ext_ne gD _ e];exact h'
 refine⟨⟨by show max gD.nx (id+1)=H.next;rw[h.nx];omega,h.low.alloc h.low.size gB,?_,?_,?_,?_,?_⟩,hk⟩
 ·intro o v L hL;by_cases e:o=id∧v=0
  ·omega
  ·rw[CM.ext_ne _ _ e]at hL;exact h.fresh _ _ _ hL
 ·intro o v L hL;rw[World.size_alloc];by_cases e:o=id∧v=0
  ·obtain⟨rfl,rfl⟩:=e;rw[CM.ext_same]at hL;cases hL;exact Jb _
  ·rw[CM.ext_ne _ _ e]at hL;have:=h.lt _ _ _ hL;omega
 ·intro o v L o' v' L' hL gg hb hB;by_cases e:o=id∧v=0<;>by_cases e':o'=id∧v'=0
  ·omega
  ·obtain⟨rfl,rfl⟩:=e;rw[CM.ext_same]at hL;cases hL;rw[CM.ext_ne _ _ e']at gg;have:=h.lt _ _ _ gg;dsimp at hb;omega
  ·obtain⟨rfl,rfl⟩:=e';rw[CM.ext_same]at gg;cases gg;rw[CM.ext_ne _ _ e]at hL;have:=h.lt _ _ _ hL;dsimp at hb;omega
  ·rw[CM.ext_ne _ _ e]at hL;rw[CM.ext_ne _ _ e']at gg;exact h.excl _ _ _ _ _ _ hL gg hb hB
 ·intro o gG ho gj;by_cases e:o=id
  ·subst e;rw[hg]at gj;cases gj;exact gE
  ·have gC:=h.obj _ _ ho gj;refine gC.frame' hk (λv L hL=>?_) (λv L hL=>zb _ _ (h.lt _ _ _ hL))
   rwa [CM.ext_ne _ _ J]at hL
 ·intro o c len gH ro ho gj v L hL;by_cases e:o=id∧v=0
  ·omega
  ·rw[CM.ext_ne _ _ e]at hL;exact h.top _ _ _ _ _ ho gj _ _ hL
end
section
section m8
variable {P : Program} {n : Nat} {ops : Array Oper} {k : Py} {L : List DOp} {E0 Ef : Tr AV}
def Uo(L:List DOp)(S:Nat→Prop)(t:Nat):Prop:=∃y∈L,S y.i∧y.o.dst=some t
open Classical in
noncomputable def bj(L:List DOp)(E0 Ef:Tr AV)(S:Nat→Prop)(t:Nat):Option AV:=if Uo L S t then Mz (M6 t) Ef else Mz (M6 t) E0
def Oq(m:Nat)(g:Nat):Prop:=m.testBit g=true
def Wf(L:List DOp)(E0 Ef:Tr AV)(S:Nat→Prop)(g:Tr AV):Prop:=∀t,t≤M8→Mz (M6 t) g=bj L E0 Ef S t
def Ub(ops:Array Oper)(L:List DOp)(E0 Ef:Tr AV)(x:DOp)(E:Tr AV):Prop:=∀t∈Sy ops x.o,t≤M8→Mz (M6 t) E=bj L E0 Ef (Oq x.m) t
def Q4(P:Program)(n:Nat)(ops:Array Oper)(k:Py)(L:List DOp)(E0 Ef:Tr AV)(x:DOp)(z g:Heap):Prop :=
 ∀j,Ub ops L E0 Ef x j→∃v,(P6 P n ops x.o).run k j z=.ok (Oj x.o.dst v j) g∧∀d,x.o.dst=some d→Mz (M6 d) Ef=some v∧d<n
def DC(L:List DOp)(S:Nat→Prop):Prop:=∀y∈L,S y.i→∀g,Oq y.m g→S g
structure Fit (P:Program) (ops:Array Oper) (L:List DOp):Prop where
 ok:LOk P ops L
 dst:∀x∈L,∀y∈L,∀d,x.o.dst=some d→y.o.dst=some d→x=y
 look:∀x∈L,∀y∈L,zp5 x y=true
def zp0{x y:DOp}(h:zp5 x y=true){d:Nat}(hd:y.o.dst=some d)(g:x.lm.testBit d=true) :
  (x.i=y.i∧Si x=false)∨(x.i≠y.i∧(Oq x.m y.i∨(Oq y.m x.i∧Si x=false))):=by
 unfold zp5 at h;rw[hd]at h;dsimp only at h;rw[g]at h;dsimp only at h;split at h
 ·rename_i e;exact .inl ⟨Ic e,Aw⟩
 ·rename_i e;refine .inr ⟨λq=>?_,?_⟩
  ·rw[q,I0]at e;cases e
  ·split at h
   ·rename_i q;exact .inl q
   ·split at h
    ·rename_i q;exact .inr ⟨q,Aw⟩
    ·cases h
def Za(G:Fit P ops L){S:Nat→Prop}(C:DC L S){x:DOp}(B:x∈L)(hm:∀H,Oq x.m H→S H)(g:¬S x.i∨Si x=true)(D:Wf L E0 Ef S I):Ub ops L E0 Ef x I:=by
 intro t E F;rw[D t F];unfold bj;have:Uo L S t↔Uo L (Oq x.m) t:=by
  constructor
  ·rintro⟨y,j,A,hd⟩;refine⟨y,j,?_,hd⟩;rcases zp0 (G.look x B y j) hd (G.ok.lm x B t E) with ⟨e,z⟩|⟨_,h|⟨h,z⟩⟩
   ·rcases g with g|g
    ·rw[e]at g;exact absurd A g
    ·rw[g]at z;cases z
   ·exact h
   ·rcases g with g|g
    ·exact absurd (C y j A _ h) g
    ·rw[g]at z;cases z
  ·rintro⟨y,j,A,hd⟩;exact⟨y,j,hm _ A,hd⟩
 by_cases h:Uo L S t
 ·rw[Ih h,Ih (this.1 h)]
 ·rw[Ig h,Ig (λq=>h (this.2 q))]
def Ub.same{x:DOp}{E:Tr AV}(h:Ub ops L E0 Ef x E)(h':Ub ops L E0 Ef x I):Qv (Sy ops x.o) I E:=λt ht hl=>by rw[h t ht hl,h' t ht hl]
def ai(d:Tmp)(v:AV)(g:Tr AV):Mz (M6 d) (Oj (some d) v g)=some v:=z91 _ _ _
def z8f{x:DOp}{E1:Tr AV}(h:(P6 P n ops x.o).run k I B=.ok E1 U)(z:Ub ops L E0 Ef x I)
  (A:∀d,x.o.dst=some d→d<n→Mz (M6 d) Ef=Mz (M6 d) E1):Q4 P n ops k L E0 Ef x B U:=by
 obtain⟨v,C,j,D⟩:=z53 h;intro E g;refine⟨v,D E (z.same g),λd hd=>⟨?_,j d hd⟩⟩;rw[A d hd (j d hd),C,hd,ai]
def Wf.put(F:Fit P ops L)(_hn:n≤M8){S:Nat→Prop}{E:Tr AV}(h:Wf L E0 Ef S E){x:DOp}(hx:x∈L){v:AV}(hv:∀d,x.o.dst=some d→Mz (M6 d) Ef=some v∧d<n) :
  Wf L E0 Ef (λj=>S j∨j=x.i) (Oj x.o.dst v E):=by
 intro t ht;have key:Uo L (λj=>S j∨j=x.i) t↔(Uo L S t∨x.o.dst=some t):=by
  constructor
  ·rintro⟨y,hy,hs|hs,hd⟩
   ·exact .inl ⟨y,hy,hs,hd⟩
   ·rw[F.ok.inj y hy x hx hs]at hd;exact .inr hd
  ·rintro (⟨y,hy,hs,hd⟩|hd)
   ·exact⟨y,hy,.inl hs,hd⟩
   ·exact⟨x,hx,.inr rfl,hd⟩
 unfold bj;cases hd:x.o.dst with
 |none =>
  rw[hd]at key;have:Uo L (λj=>S j∨j=x.i) t↔Uo L S t:=by rw[key];simp
  rw[show Oj none v E=E from rfl,h t ht];unfold bj;by_cases q:Uo L S t
  ·rw[Ih q,Ih (this.2 q)]
  ·rw[Ig q,Ig (λz=>q (this.1 z))]
 |some d =>
  rw[hd]at key;obtain⟨gg,gj⟩:=hv d hd;rw[show Oj (some d) v E=N8 v (M6 d) E from rfl,xx];by_cases e:t=d
  ·subst e;rw[Ih rfl,Ih (key.2 (.inr rfl)),gg]
  ·rw[Ig e,h t ht];unfold bj;have:Uo L (λj=>S j∨j=x.i) t↔Uo L S t:=by
    rw[key];constructor
    ·rintro (q|q)
     ·exact q
     ·exact absurd (Option.some.inj q).symm e
    ·exact .inl
   by_cases q:Uo L S t
   ·rw[Ih q,Ih (this.2 q)]
   ·rw[Ig q,Ig (λz=>q (this.1 z))]
def zca{r:OE}{f:Tr AV→Heap→OE}(h:(OE.rec .no f r:OE)=.ok I B):∃g j,r=.ok g j∧f g j=.ok I B:=by
 cases r with
 |no=>cases h
 |ok g j=>exact⟨g,j,rfl,h⟩
def z88{b:Bool}{r:OE}(h:(Bool.rec .no r b:OE)=.ok I B):b=true∧r=.ok I B:=by
 cases b with
 |false=>cases h
 |true=>exact⟨rfl,h⟩
def zgb{x:DOp}{l g:List DOp}(h:(S8 P n ops (x::l) g).run k I B=.ok vV U) :
  ∃z A j,(P6 P n ops x.o).run k I B=.ok z A∧(S8 P n ops l j).run k z A=.ok vV U ∧
   ((x.c=.quiet∧j=g)∨(x.c=.rd∧j=x::g)∨(x.c=.al∧j=x::g∧(dr P ops (x::g)).run z A=true) ∨
    (x.c=.ch∧j=Nl (λy=>!(Nat.testBit x.m y.i)) g∧(dr P ops j).run z A=true)):=by
 simp only[S8]at h;split at h
 ·rename_i D;obtain⟨z,A,E,C⟩:=zca h;exact⟨z,A,g,E,C,.inl ⟨D,rfl⟩⟩
 ·rename_i D;obtain⟨z,A,E,C⟩:=zca h;exact⟨z,A,x::g,E,C,.inr (.inl ⟨D,rfl⟩)⟩
 ·rename_i D;obtain⟨z,A,E,C⟩:=zca h;obtain⟨F,C⟩:=z88 C;exact⟨z,A,x::g,E,C,.inr (.inr (.inl ⟨D,rfl,F⟩))⟩
 ·rename_i D;obtain⟨z,A,E,C⟩:=zca h;obtain⟨F,C⟩:=z88 C;exact⟨z,A,_,E,C,.inr (.inr (.inr ⟨D,rfl,F⟩))⟩
def ze4(D:n≤M8){d:Nat}(hd:d≤M8):∀{l g:List DOp} {A j:Tr AV} {I B:Heap},(S8 P n ops l g).run k A I=.ok j B→(∀y∈l,y.o.dst≠some d)→Mz (M6 d) j=Mz (M6 d) A
 |[],_,_,_,_,_,h,_=>B5
 |x::l,g,A,j,I,B,h,C=>by
  obtain⟨K,M,z,E,F,_⟩:=zgb h;rw[ze4 D hd F (λy q=>C y (by simp[q]))];obtain⟨v,G,O,_⟩:=z53 E;rw[G];cases H:x.o.dst with
  |none=>rfl
  |some e =>
   rw[show Oj (some e) v A=N8 v (M6 e) A from rfl,n5];intro q;subst q;exact C x N H
def rechecks_mem:∀{l:List DOp} {j:Tr AV} {z:Heap},(dr P ops l).run j z=true→∀x∈l,(Wk P ops x).run j z=true
 |[],_,_,_,x,g=>Ea
 |y::l,j,z,h,x,g=>by
  simp only[dr]at h;split at h
  ·rename_i A;rcases Ij.1 g with rfl|g
   ·exact A
   ·exact rechecks_mem h x g
  ·cases h
def zmr(V:Fit P ops L){x:DOp}(O:x∈L)(E:x.c=.rd)(F:Ub ops L E0 Ef x I)(Q:Q4 P n ops k L E0 Ef x B B)(R:∀d,x.o.dst=some d→Mz (M6 d) Ef=Mz (M6 d) I)
  (h:(Wk P ops x).run I U=true):Q4 P n ops k L E0 Ef x U U:=by
 have C:U6 (Nq P x.o.op):=ua.2 (by rw[←V.ok.cl x O];exact E);obtain⟨v,g,S⟩:=Q I F;unfold Wk at h;cases hd:x.o.dst with
 |none=>rw[hd]at h;cases h
 |some d =>
  rw[hd]at h g;dsimp only at h;obtain⟨G,D⟩:=S d hd;have T:P7 n (some d)=some ⟨λa I=>N8 a (M6 d) I⟩:=by unfold P7;dsimp only;rw[Ih D]
  have j:(P6 P n ops x.o).run k I U=.ok (Oj (some d) v I) U:=by
   unfold P6 at g ⊢;rw[hd,T]at g ⊢;dsimp only at g ⊢;cases H:(Rf ops x.o).run I with
   |false =>
    rw[H]at g;dsimp only at g ⊢;injection g with g
    rw[g]
   |true =>
    rw[H]at h g;dsimp only at h g ⊢;rw[←R d hd,G]at h;dsimp only at h;have K:=C I U;cases A:(Nq P x.o.op).run I U with
    |no=>rw[A]at h;cases h
    |call t M=>rw[A]at h;cases h
    |val X Y =>
     rw[A,E]at h;rw[A]at K;dsimp only at h ⊢;cases K;rw[zi4 (eqAV_spec _ _ _) h];rfl
  refine z8f j F (λZ z _=>?_);rw[hd]at z;cases z;rw[ai,G]
def Qe(P:Program)(n:Nat)(ops:Array Oper)(k:Py)(L:List DOp)(E0 Ef:Tr AV)(x:DOp):Prop:=∀g,Q4 P n ops k L E0 Ef x g g
noncomputable def Pt(Ef:Tr AV)(x:DOp):Nat:=((x.o.dst.bind λd=>Mz (M6 d) Ef).bind Nk).getD 0
def Zj(P:Program)(n:Nat)(ops:Array Oper)(L:List DOp)(E0 Ef:Tr AV)(x:DOp)(g:Heap):Prop :=
 ∃d j,x.o.dst=some d∧d<n∧Mz (M6 d) Ef=some j∧Nk j=some (Pt Ef x)∧∀B,Ub ops L E0 Ef x B→(Rf ops x.o).run B=true ∧
  ∃z A,(Nq P x.o.op).run B g=.val z A∧j=Pm (Pt Ef x) z∧∃a b,g.get (Pt Ef x)=some a∧A.get g.next=some b∧U7 (eqObj a b) a b=true
def z6s{x:DOp}(g:Qv (Sy ops x.o) vV I):(Nq P x.o.op).run vV B=(Nq P x.o.op).run I B :=
 zh5 (Qv.opds (λt j=>g t (by simp[Sy,j])))
def zub{x:DOp}(D:x.c=.al)(M:Ub ops L E0 Ef x I)(O:(Rf ops x.o).run I=true){d:Nat}(hd:x.o.dst=some d)(F:d<n)(Q:Mz (M6 d) Ef=some E)
  (T:Mz (M6 d) I=some E) (h:(Wk P ops x).run I B=true):Zj P n ops L E0 Ef x B:=by
 unfold Wk at h;rw[hd]at h;dsimp only at h;rw[O,T]at h;dsimp only at h;cases A:(Nq P x.o.op).run I B with
 |no=>rw[A]at h;cases h
 |call t R=>rw[A]at h;cases h
 |val G S =>
  rw[A,D]at h;dsimp only at h;unfold zt8 at h;cases j:Nk E with
  |none=>rw[j]at h;cases h
  |some id =>
   rw[j]at h;dsimp only at h;have g:Pt Ef x=id:=by unfold Pt;rw[hd];simp[Q,j]
   cases H:U7 (Qh 30 E (Pm id G)) E (Pm id G) with
   |false=>rw[H]at h;cases h
   |true =>
    rw[H]at h;dsimp only at h;cases C:B.get id with
    |none=>rw[C]at h;cases h
    |some a =>
     cases K:S.get B.next with
     |none=>rw[C,K]at h;cases h
     |some b =>
      rw[C,K]at h;refine⟨d,E,hd,F,Q,by rw[g,j],λU z=>⟨by rw[ln (M.same z)];exact O,G,S,by rw[z6s (M.same z)];exact A,by rw[g];exact zi4 (eqAV_spec _ _ _) H,a,b,by rw[g];exact C,K,h⟩⟩
def Xv(Z:Fit P ops L){x:DOp}(T:x∈L)(z:x.c=.al){E1:Tr AV}(h:(P6 P n ops x.o).run k I B=.ok E1 U)(O:Ub ops L E0 Ef x I)(A:Ub ops L E0 Ef x E1)
  (Q:∀d,x.o.dst=some d→d<n→Mz (M6 d) Ef=Mz (M6 d) E1) (g:(Wk P ops x).run E1 U=true) :
  (Qe P n ops k L E0 Ef x∧U=B)∨(∃F,True∧U=B.push F∧w9 F∧Pt Ef x=B.next∧Zj P n ops L E0 Ef x U):=by
 have j:=zpg (P:=P) (o:=x.o) (by rw[←Z.ok.cl x T];exact z) I B;have h0:=h;unfold P6 at h;cases G:P7 n x.o.dst with
 |none=>rw[G]at h;cases h
 |some p =>
  rw[G]at h;dsimp only at h;obtain⟨C,K⟩:=zu G;cases H:(Rf ops x.o).run I with
  |false =>
   rw[H]at h;cases h;refine .inl ⟨λV=>?_,rfl⟩;refine z8f (E1:=p.run Qs I) ?_ O Q;unfold P6;rw[G];dsimp only;rw[H]
  |true =>
   rw[H]at h;dsimp only at h;cases M:(Nq P x.o.op).run I B with
   |no=>rw[M]at h;cases h
   |call t R=>rw[M]at j;exact j.elim
   |val v V =>
    rw[M]at h j;cases h;obtain⟨F,m1,rfl,X,Y,_⟩:=j;cases hd:x.o.dst with
    |none =>
     unfold Wk at g;rw[hd]at g;cases g
    |some d =>
     have D:=K d hd;have E:Mz (M6 d) (p.run v I)=some v:=by rw[C,hd,ai]
     have S:Mz (M6 d) Ef=some v:=by rw[Q d hd D,E]
     refine .inr ⟨F,m1,rfl,Y,?_,zub z A (by rw[ln (O.same A)];exact H) hd D S E g⟩;unfold Pt;rw[hd];simp[S,X]
def zy(P:Program)(n:Nat)(ops:Array Oper)(k:Py)(L:List DOp)(E0 Ef:Tr AV)(x:DOp)(g:Heap):Prop :=
 (x.c=.rd∧Q4 P n ops k L E0 Ef x g g)∨(x.c=.al∧(Qe P n ops k L E0 Ef x∨Zj P n ops L E0 Ef x g))
def zl2(H:Fit P ops L){x:DOp}(E:x∈L)(z:Ub ops L E0 Ef x I)(g:zy P n ops k L E0 Ef x B)(A:∀d,x.o.dst=some d→Mz (M6 d) Ef=Mz (M6 d) I)
  (h:(Wk P ops x).run I U=true):zy P n ops k L E0 Ef x U:=by
 rcases g with ⟨j,g⟩|⟨j,g|g⟩
 ·exact .inl ⟨j,zmr H E j z g A h⟩
 ·exact .inr ⟨j,.inl g⟩
 ·obtain⟨d,K,C,F,D,_,G⟩:=g;exact .inr ⟨j,.inr (zub j z (G I z).1 C F D (by rw[←A d C];exact D) h)⟩
def y9(P:Program)(n:Nat)(ops:Array Oper)(L:List DOp)(E0 Ef:Tr AV)(ch:List DOp)(j g:Nat→Heap)(x:DOp)(r:Nat):Prop :=
 r≤ch.length∧(∀q c,q<r→ch[q]?=some c→Oq x.m c.i)∧(j r).next≤Pt Ef x∧Pt Ef x<(g r).next ∧
  ∀p,r≤p→p≤ch.length→(∀q c,r≤q→q<p→ch[q]?=some c→¬Oq c.m x.i)→Zj P n ops L E0 Ef x (g p)
def m8(gV:Fit P ops L)(hn:n≤M8):∀(l E:List DOp) (seen G s:Nat) (jB:Tr AV) (gU H':Heap),(S8 P n ops l E).run k jB gU=.ok Ef H'→Oo l seen G=some s→(∀x∈l,x∈L) →
  (∀x∈E,x∈L∧Si x=true∧Oq seen x.i∧(∀d,x.o.dst=some d→d<n)∧zy P n ops k L E0 Ef x gU)→Wf L E0 Ef (Oq seen) jB→DC L (Oq seen) →
  Wf L E0 Ef (Oq s) Ef∧DC L (Oq s) ∧
  ∃(Hb R:Nat→Heap) (S:Nat→Nat),Hb 0=gU∧R (Nl M1 l).length=H'∧(∀p,p≤(Nl M1 l).length→Ups (Hb p) (R p)) ∧
   (∀q c,(Nl M1 l)[q]?=some c→Q4 P n ops k L E0 Ef c (R q) (Hb (q+1))) ∧
   (∀x∈l,x.c=.rd→∃r,r≤(Nl M1 l).length∧(∀q c,q<r→(Nl M1 l)[q]?=some c→Oq x.m c.i)∧∀p,r≤p→p≤(Nl M1 l).length→(∀q c,r≤q→q<p→(Nl M1 l)[q]?=some c→¬Oq c.m x.i)→Q4 P n ops k L E0 Ef x (R p) (R p)) ∧
   (∀x∈l,x.c=.quiet→∀H2,Q4 P n ops k L E0 Ef x H2 H2) ∧
   (∀x∈l,x.c=.al→Qe P n ops k L E0 Ef x∨y9 P n ops L E0 Ef (Nl M1 l) Hb R x (S x.i)) ∧
   (∀x∈l,∀y∈l,x.c=.al→y.c=.al→¬Qe P n ops k L E0 Ef x→¬Qe P n ops k L E0 Ef y→S x.i=S y.i→Pt Ef x=Pt Ef y→x=y) ∧
   (∀x∈E,∀p,p≤(Nl M1 l).length→(∀q c,q<p→(Nl M1 l)[q]?=some c→¬Oq c.m x.i)→zy P n ops k L E0 Ef x (R p))
 |[],E,seen,G,s,jB,gU,H',h,ht,hl,hp,hE,hD=>by
  cases h;simp only[Oo,Option.some.injEq]at ht;subst ht;refine⟨hE,hD,λ_=>gU,λ_=>gU,λ_=>0,rfl,rfl,λ_ _=>.refl _,λq c K=>(by cases K),λx F=>(by cases F),λx F=>(by cases F),λx F=>(by cases F),λx F=>(by cases F),λx F p _ _=>(hp x F).2.2.2.2⟩
 |x::l,E,seen,G,s,jB,gU,H',h,ht,hl,hp,hE,hD=>by
  obtain⟨E1,Y,T,h1,h2,h3⟩:=zgb h;obtain⟨t1,t2,Z⟩:=ug ht;have F:x∈L:=hl x N;have gX:Ub ops L E0 Ef x jB:=Za gV hD F t1 (.inl (by unfold Oq;rw[t2];simp)) hE;have gO:∀y∈l,y.i≠x.i:=by
   have jC:∀gP,Oo l (Nat.lor (2^x.i) seen) gP=some s→∀y∈l,y.i≠x.i:=λgP h' y j e=>by
    have:=topo_new h' y j;rw[Wg,da,e]at this;simp at this
   rcases Z with ⟨_,h3⟩|⟨_,_,h3⟩|⟨_,_,h3⟩<;>exact jC _ h3
  obtain⟨v,s1,s2,s3⟩:=z53 h1;have V:∀d,x.o.dst=some d→d<n→Mz (M6 d) Ef=Mz (M6 d) E1:=λd hd jD =>
   ze4 hn (I5 (Mm jD) hn) h2 (λy j e=>gO y j (by rw[gV.dst y (hl y Av) x F d e hd]))
  have gB:Q4 P n ops k L E0 Ef x gU Y:=z8f h1 gX V;have hS:(Oq (Nat.lor (2^x.i) seen))=λgY=>Oq seen gY∨gY=x.i:=by
   funext gY
   unfold Oq;rw[Wg,da];simp only[Jx,Ii,eq_iff_iff];constructor
   ·rintro (e|e)
    ·exact .inr e.symm
    ·exact .inl e
   ·rintro (e|e)
    ·exact .inr e
    ·exact .inl e.symm
  have gg:Wf L E0 Ef (Oq (Nat.lor (2^x.i) seen)) E1:=by
   rw[hS,s1];refine hE.put gV hn F (λd hd=>⟨?_,s2 d hd⟩);rw[V d hd (s2 d hd),s1,hd,ai]
  have gj:DC L (Oq (Nat.lor (2^x.i) seen)):=by
   rw[hS];rintro y j (hs|hs) gY hj
   ·exact .inl (hD y j hs gY hj)
   ·rw[gV.ok.inj y j x F hs]at hj;exact .inl (t1 gY hj)
  have gI:∀y∈l,y∈L:=λy j=>hl y Av
  have H:Oq (Nat.lor (2^x.i) seen) x.i:=by rw[hS];exact .inr rfl
  have A:∀gY,Oq seen gY→Oq (Nat.lor (2^x.i) seen) gY:=λgY hj=>by rw[hS];exact .inl hj
  have I:∀y,y∈L→Si y=true→Oq (Nat.lor (2^x.i) seen) y.i→Ub ops L E0 Ef y E1:=λy a b c=>Za gV gj a (λgY hj=>gj y a c gY hj) (.inr b) gg
  have gQ:∀y,y∈L→Oq (Nat.lor (2^x.i) seen) y.i→(∀d,y.o.dst=some d→d<n)→∀d,y.o.dst=some d→Mz (M6 d) Ef=Mz (M6 d) E1:=λy a c hd e he=>by
   rw[gg e (I5 (Mm (hd e he)) hn)];unfold bj;rw[Ih ⟨y,a,c,he⟩]
  rcases h3 with ⟨z,rfl⟩|⟨z,rfl⟩|⟨z,rfl,gK⟩|⟨z,g8,gK⟩
  ·
   have O:Oo l (Nat.lor (2^x.i) seen) G=some s:=by
    rcases Z with ⟨_,Z⟩|⟨e,_⟩|⟨e,_⟩
    ·exact Z
    ·rw[z]at e;rcases e with e|e<;>cases e
    ·rw[z]at e;cases e
   have K:R6 (Nq P x.o.op):=ua.1 (by rw[←gV.ok.cl x F];exact z);have hH:Y=gU:=z58 K.reads h1;subst hH;have hf:Nl M1 (x::l)=Nl M1 l:=Ci
   obtain⟨r0,U,Hb,R,S,r1,r2,ru,r3,r4,r5,ra,ri,r6⟩:=m8 gV hn l T _ G s E1 Y H' h2 O gI (λy j=>let ⟨a,b,c,d⟩:=hp y j;⟨a,b,A _ c,d⟩) gg gj;rw[hf];refine⟨r0,U,Hb,R,S,r1,r2,ru,r3,λy j g=>?_,λy j g H2=>?_,λy j g=>?_,λy j jz X g C=>?_,r6⟩
   ·rcases Ij.1 j with rfl|j
    ·rw[z]at g;cases g
    ·exact r4 y j g
   ·rcases Ij.1 j with rfl|j
    ·exact z8f (zho K h1 H2) gX V
    ·exact r5 y j g H2
   ·rcases Ij.1 j with rfl|j
    ·rw[z]at g;cases g
    ·exact ra y j g
   ·rcases Ij.1 j with rfl|j
    ·rw[z]at g;cases g
    ·rcases Ij.1 X with rfl|X
     ·rw[z]at C;cases C
     ·exact ri y j jz X g C
  ·
   have O:Oo l (Nat.lor (2^x.i) seen) G=some s:=by
    rcases Z with ⟨e,_⟩|⟨_,_,Z⟩|⟨e,_⟩
    ·rw[z]at e;cases e
    ·exact Z
    ·rw[z]at e;cases e
   have K:U6 (Nq P x.o.op):=ua.2 (by rw[←gV.ok.cl x F];exact z);have hH:Y=gU:=z58 K h1;subst hH;have hf:Nl M1 (x::l)=Nl M1 l:=Ci
   obtain⟨r0,U,Hb,R,S,r1,r2,ru,r3,r4,r5,ra,ri,r6⟩:=m8 gV hn l (x::E) _ G s E1 Y H' h2 O gI (λy j=>by
    rcases Ij.1 j with rfl|j
    ·exact⟨F,by unfold Si;rw[z],H,s2,.inl ⟨z,gB⟩⟩
    ·obtain⟨a,b,c,d⟩:=hp y j;exact⟨a,b,A _ c,d⟩) gg gj
   rw[hf];refine⟨r0,U,Hb,R,S,r1,r2,ru,r3,λy j g=>?_,λy j g H2=>?_,λy j g=>?_,λy j jz X g C=>?_,λy j=>r6 y Av⟩
   ·rcases Ij.1 j with rfl|j
    ·refine⟨0,K8 _,λq c K=>absurd K (Mf q),λp _ B D=>?_⟩;rcases r6 y N p B (λq c K=>D q c (K8 q) K) with ⟨_,h⟩|⟨h,_⟩
     ·exact h
     ·rw[z]at h;cases h
    ·exact r4 y j g
   ·rcases Ij.1 j with rfl|j
    ·rw[z]at g;cases g
    ·exact r5 y j g H2
   ·rcases Ij.1 j with rfl|j
    ·rw[z]at g;cases g
    ·exact ra y j g
   ·rcases Ij.1 j with rfl|j
    ·rw[z]at g;cases g
    ·rcases Ij.1 X with rfl|X
     ·rw[z]at C;cases C
     ·exact ri y j jz X g C
  ·
   have O:Oo l (Nat.lor (2^x.i) seen) G=some s:=by
    rcases Z with ⟨e,_⟩|⟨_,_,Z⟩|⟨e,_⟩
    ·rw[z]at e;cases e
    ·exact Z
    ·rw[z]at e;cases e
   have gC:Si x=true:=by unfold Si;rw[z]
   have hf:Nl M1 (x::l)=Nl M1 l:=Ci
   have gD:=Xv gV F z h1 gX (I x F gC H) V (rechecks_mem gK x N);have jE:zy P n ops k L E0 Ef x Y:=by
    rcases gD with ⟨h,_⟩|⟨_,_,_,_,_,h⟩
    ·exact .inr ⟨z,.inl h⟩
    ·exact .inr ⟨z,.inr h⟩
   obtain⟨r0,U,Hb,R,S,r1,r2,ru,r3,r4,r5,ra,ri,r6⟩:=m8 gV hn l (x::E) _ G s E1 Y H' h2 O gI (λy j=>by
    rcases Ij.1 j with rfl|jF
    ·exact⟨F,gC,H,s2,jE⟩
    ·obtain⟨a,b,c,d,e⟩:=hp y jF;exact⟨a,b,A _ c,d,zl2 gV a (I y a b (A _ c)) e (gQ y a (A _ c) d) (rechecks_mem gK y j)⟩) gg gj
   rw[hf];have gR:Ups gU Y:=by
    rcases gD with ⟨_,rfl⟩|⟨ob,q1,rfl,q3,_⟩
    ·exact .refl _
    ·exact .push q1 q3 (.refl _)
   have gL:Ups Y (R 0):=by rw[←r1];exact ru 0 (K8 _)
   have jG:∀{jP jQ jR:Heap},Ups jP jQ→Ups jQ jR→Ups jP jR:=λ{jP jQ jR} h1=>by
    induction h1 with
    |refl=>exact id
    |push a b _ ih=>exact λh=>.push a b (ih h)
   have Q:∀y∈l,(if y.i=x.i then 0 else S y.i)=S y.i:=λy j=>Ig (gO y j)
   refine⟨r0,U,λp=>match p with
    |0=>gU
    |p+1=>Hb (p+1),R,λi=>if i=x.i then 0 else S i,rfl,r2,λp B=>?_,r3,λy j g=>?_,λy j g H2=>?_,λy j g=>?_,λy j jz X g C gE gF M gG=>?_,λy j p B D=>?_⟩
   ·cases p with
    |zero=>exact jG gR gL
    |succ p=>exact ru (p+1) B
   ·rcases Ij.1 j with rfl|j
    ·rw[z]at g;cases g
    ·exact r4 y j g
   ·rcases Ij.1 j with rfl|j
    ·rw[z]at g;cases g
    ·exact r5 y j g H2
   ·rcases Ij.1 j with rfl|j
    ·rcases gD with ⟨h,_⟩|⟨ob,q1,q2,q3,q4,q5⟩
     ·exact .inl h
     ·refine .inr ?_;dsimp only;rw[Ih rfl];refine⟨K8 _,λq c K=>absurd K (Mf q),Lm q4.symm,?_,λp _ B D=>?_⟩
      ·have:=gL.next;rw[q2]at this;rw[q4];exact Ix (Jb _) this
      ·rcases r6 y N p B (λq c K=>D q c (K8 q) K) with ⟨h,_⟩|⟨_,h|h⟩
       ·rw[z]at h;cases h
       ·obtain⟨d,v0,g1,g2,g3,g4,g5⟩:=q5;exfalso;obtain⟨w1,w2,_⟩:=h Y E1 (I y F gC H);obtain⟨g6,_⟩:=g5 E1 (I y F gC H);have g9:=zpg (P:=P) (o:=y.o) (by rw[←gV.ok.cl y F];exact z) E1 Y;obtain⟨_,v',jS,g7,_⟩:=g5 E1 (I y F gC H);rw[g7]at g9;obtain⟨jT,m1,m2,_⟩:=g9;unfold P6 at w2;have B:P7 n y.o.dst=some ⟨λa jB=>N8 a (M6 d) jB⟩:=by rw[g1];unfold P7;dsimp only;rw[Ih g2]
        rw[B]at w2;dsimp only at w2;rw[g6,g7]at w2;dsimp only at w2;injection w2 with _ w2
        rw[m2]at w2;have:=congrArg Heap.next w2;simp[Heap.push]at this
       ·exact h
    ·dsimp only;rw[Q y j];refine (ra y j g).imp id λ⟨a1,a2,a3,a4,a5⟩=>⟨a1,a2,?_,a4,a5⟩
     generalize S y.i=r at a3;cases r with
     |zero =>
      rw[r1]at a3;exact I5 gR.next a3
     |succ r=>exact a3
   ·dsimp only at M;have gS:∀u∈l,u.c=.al→¬Qe P n ops k L E0 Ef u→S u.i=0→∀ob,Y=gU.push ob→Pt Ef u=gU.next→False:=λu hu jH jI gL ob he jg=>by
     rcases ra u hu jH with h|⟨_,_,a3,_⟩
     ·exact jI h
     ·rw[gL,r1,he,jg]at a3;exact absurd a3 (Nat.not_succ_le_self _)
    rcases Ij.1 j with ey|gM
    ·rcases Ij.1 X with ez|gH
     ·rw[ey,ez]
     ·subst ey;rw[Ih rfl,Q jz gH]at M;rcases gD with ⟨h,_⟩|⟨ob,q1,q2,q3,q4,q5⟩
      ·exact absurd h gE
      ·exact (gS jz gH C gF M.symm ob q2 (by rw[←gG,q4])).elim
    ·rcases Ij.1 X with ez|gH
     ·subst ez;rw[Ih rfl,Q y gM]at M;rcases gD with ⟨h,_⟩|⟨ob,q1,q2,q3,q4,q5⟩
      ·exact absurd h gF
      ·exact (gS y gM g gE M ob q2 (by rw[gG,q4])).elim
     ·rw[Q y gM,Q jz gH]at M;exact ri y gM jz gH g C gE gF M gG
   ·exact r6 y Av p B D
  ·
   obtain⟨tc,O⟩:(∀gY,G.testBit gY=true→x.m.testBit gY=true)∧Oo l (Nat.lor (2^x.i) seen) (Nat.lor (2^x.i) G)=some s:=by
    rcases Z with ⟨e,_⟩|⟨e,_⟩|⟨_,Z⟩
    ·rw[z]at e;cases e
    ·rw[z]at e;rcases e with e|e<;>cases e
    ·exact Z
   have hf:Nl M1 (x::l)=x::Nl M1 l:=Ci
   have jL:∀y∈T,y∈E∧¬Oq x.m y.i:=λy j=>by
    rw[g8]at j;obtain⟨a,b⟩:=V5.1 j;exact⟨a,by unfold Oq;simpa using b⟩
   obtain⟨r0,U,Hb,R,S,r1,r2,ru,r3,r4,r5,ra,ri,r6⟩:=m8 gV hn l T _ _ s E1 Y H' h2 O gI (λy j=>by
    obtain⟨a,b,c,d,e⟩:=hp y (jL y j).1;exact⟨a,b,A _ c,d,zl2 gV a (I y a b (A _ c)) e (gQ y a (A _ c) d) (rechecks_mem gK y j)⟩) gg gj
   rw[hf];have gT:∀y∈l,y.c≠.quiet→∀r,(∀q c,q<r→(Nl M1 l)[q]?=some c→Oq y.m c.i)→∀q c,q<r+1→(x::Nl M1 l)[q]?=some c→Oq y.m c.i:=λy j g r u1 q c K gZ=>by
    cases q with
    |zero =>
     simp only[Iq,Option.some.injEq]at gZ;subst gZ;refine topo_chs O y j g _ ?_;rw[Wg,da];simp
    |succ q=>exact u1 q c J (by simpa using gZ)
   refine⟨r0,U,λq=>match q with
    |0=>gU
    |q+1=>Hb q,λq=>match q with
    |0=>gU
    |q+1=>R q,λi=>S i+1,rfl,r2,λp B=>?_,λq c K=>?_,λy j g=>?_,λy j g H2=>?_,λy j g=>?_,λy j jz X g C gE gF M gG=>?_,λy j p B D=>?_⟩
   ·cases p with
    |zero=>exact .refl _
    |succ p=>simp only[Iv]at B;exact ru p J
   ·cases q with
    |zero =>
     simp only[Iq,Option.some.injEq]at K;subst K;dsimp only;rw[r1];exact gB
    |succ q=>exact r3 q c (by simpa using K)
   ·rcases Ij.1 j with rfl|j
    ·rw[z]at g;cases g
    ·obtain⟨r,u0,u1,u2⟩:=r4 y j g;refine⟨r+1,Bv,gT y j (by rw[g];exact λe=>An) r u1,λp hr B D=>?_⟩;cases p with
     |zero=>omega
     |succ p =>
      simp only[Iv]at B;exact u2 p J J (λq c h5 h6 h7=>D (q+1) c J J (by simpa using h7))
   ·rcases Ij.1 j with rfl|j
    ·rw[z]at g;cases g
    ·exact r5 y j g H2
   ·rcases Ij.1 j with rfl|j
    ·rw[z]at g;cases g
    ·refine (ra y j g).imp id λ⟨a1,a2,a3,a4,a5⟩=>⟨by simp only[Iv];show S y.i+1≤_;omega,gT y j (by rw[g];exact λe=>An) _ a2,a3,a4,λp hr B D=>?_⟩
     dsimp only at hr D;cases p with
     |zero=>omega
     |succ p =>
      simp only[Iv]at B;exact a5 p J J (λq c h5 h6 h7=>D (q+1) c J J (by simpa using h7))
   ·rcases Ij.1 j with rfl|j
    ·rw[z]at g;cases g
    ·rcases Ij.1 X with rfl|X
     ·rw[z]at C;cases C
     ·exact ri y j jz X g C gE gF (Nat.succ.inj M) gG
   ·cases p with
    |zero=>exact (hp y j).2.2.2.2
    |succ p =>
     simp only[Iv]at B;have h0:=D 0 x J N;refine r6 y ?_ p J (λq c h6 h7=>D (q+1) c J (by simpa using h7));rw[g8];refine V5.2 ⟨j,?_⟩;unfold Oq at h0;simpa using h0
def chain_order:∀{l:List DOp} {seen B s:Nat},Oo l seen B=some s→∀(q g:Nat) (c j:DOp),q<g→(Nl M1 l)[q]?=some c→(Nl M1 l)[g]?=some j→Oq j.m c.i
 |[],_,_,_,_,q,g,c,j,_,h,_=>by simp[Nl]at h
 |x::l,seen,B,s,F,q,g,c,j,C,h,z=>by
  obtain⟨_,_,G⟩:=ug F;rcases G with ⟨A,t⟩|⟨A,_,t⟩|⟨A,_,t⟩
  ·have D:Nl M1 (x::l)=Nl M1 l:=by simp only[Nl];unfold M1;rw[A]
   rw[D]at h z;exact chain_order t q g c j C h z
  ·have D:Nl M1 (x::l)=Nl M1 l:=by simp only[Nl];unfold M1;rcases A with A|A<;>rw[A]
   rw[D]at h z;exact chain_order t q g c j C h z
  ·have D:Nl M1 (x::l)=x::Nl M1 l:=by simp only[Nl];unfold M1;rw[A]
   rw[D]at h z;cases g with
   |zero=>omega
   |succ g =>
    simp only[Is]at z;cases q with
    |zero =>
     simp only[Iq,Option.some.injEq]at h;subst h;obtain⟨hm,E⟩:=V5.1 (I3.2 ⟨_,z⟩);refine topo_chs t j hm (by rw[zc5.1 E];exact λe=>An) _ ?_;rw[Wg,da];simp
    |succ q=>exact chain_order t q g c j J Aw z
end m8
end
section
section Zr
variable {P : Program} {n : Nat} {ops : Array Oper} {k : Py} {L : List DOp} {E0 Ef : Tr AV}
def zi1{S:Nat→Prop}:∀{l:List DOp} {seen A s:Nat},Oo l seen A=some s→(∀z,Oq seen z→S z)→(∀x∈l,S x.i)∨∃x∈l,¬S x.i∧∀z,Oq x.m z→S z
 |[],_,_,_,_,_=>.inl λx B=>by cases B
 |x::l,seen,A,s,h,F=>by
  obtain⟨G,I,C⟩:=ug h;by_cases B:S x.i
  ·have E:∀g,Oo l (Nat.lor (2^x.i) seen) g=some s→(∀y∈x::l,S y.i)∨∃y∈x::l,¬S y.i∧∀z,Oq y.m z→S z:=λg H=>by
    rcases zi1 H (S:=S) (λz j=>by
     unfold Oq at j;rw[Wg,da]at j;simp only[Jx,Ii]at j;rcases j with rfl|j
     ·exact B
     ·exact F z j) with q|⟨y,D,q⟩
    ·exact .inl λy D=>by
      rcases Ij.1 D with rfl|D
      ·exact B
      ·exact q y D
    ·exact .inr ⟨y,Be,q⟩
   rcases C with ⟨_,C⟩|⟨_,_,C⟩|⟨_,_,C⟩<;>exact E _ C
  ·exact .inr ⟨x,N,B,λz j=>F z (G z j)⟩
def N2(listed:Array Bool)(i:Nat):Prop:=listed.getD i false=true
def Zh{listed:Array Bool}{i:Nat}(hi:i<listed.size)(g:Nat):N2 (listed.setIfInBounds i true) g↔(N2 listed g∨g=i):=by
 unfold N2;rw[I6,Mh,I6];by_cases e:i=g
 ·subst e;simp[hi]
 ·have:¬g=i:=λq=>e q.symm
  simp[e,this]
def zm4{listed:Array Bool}{i:Nat}(D:listed.size=ops.size):i∈Region.ready .any ops listed↔i<ops.size∧¬N2 listed i∧∃o,ops[i]?=some o∧∀e∈o.after.toList,Region.binds .any e=true→N2 listed e.on:=by
 unfold Region.ready N2;simp only[Kz,Jk,H7,Lu];constructor
 ·rintro⟨g,j,z⟩;refine⟨g,?_,?_⟩
  ·rw[I6,Je J]at j ⊢;simpa using j
  ·rw[Je g]at z;simp only[Jw,Ka]at z;refine⟨ops[i],Je g,λe A B=>?_⟩;have:=Array.all_eq_true_iff_forall_mem.1 z e Bi;rw[B]at this;simpa using this
 ·rintro⟨g,j,o,z,C⟩;refine⟨g,?_,?_⟩
  ·rw[I6,Je J]at j ⊢;simpa using j
  ·rw[z];simp only[Jw,Ka];refine Array.all_eq_true_iff_forall_mem.2 λe A=>?_
   cases B:Region.binds .any e with
   |false=>rfl
   |true=>simpa using C e Bi B
def zth{g:CM}(h:F.le g){o:Nat}(z:∀v,F o v=none)(A:o<F.nx)(v:Nat):g o v=none:=by
 cases e:g o v with
 |none=>rfl
 |some L =>
  rcases h.new _ _ _ e with ⟨B,C,j⟩|j
  ·rw[z]at j;cases j
  ·omega
structure Pends (P:Program) (n:Nat) (ops:Array Oper) (k:Py) (L:List DOp) (E0 Ef:Tr AV) (ord:List DOp) (ph:Nat→Nat) (C0 C:CM) (Hp:Heap) (D:Nat→Prop) (p:Nat):Prop where
 known:∀x∈ord,x.c=.al→¬Qe P n ops k L E0 Ef x→ph x.i≤p→C0.nx≤Pt Ef x∧Pt Ef x<Hp.next
 inj:∀x∈ord,∀y∈ord,x.c=.al→y.c=.al→¬Qe P n ops k L E0 Ef x→¬Qe P n ops k L E0 Ef y→ph x.i≤p→ph y.i≤p→Pt Ef x=Pt Ef y→x=y
 pend:∀x∈ord,x.c=.al→¬Qe P n ops k L E0 Ef x→ph x.i≤p→¬D x.i→∀v,C (Pt Ef x) v=none
def eo(gj:Fit P ops L){x:DOp}(hx:x∈L)(B:x.c=.al)(ho:ops[x.i]?=some x.o){H:Heap}{w:World}{E:Tr AV}{a:Act}(R:Rel C F H w)(S:ER n F E a.tmps)
  (D:Ub ops L E0 Ef x E) (G:Zj P n ops L E0 Ef x H) (I:Pt Ef x<H.next) (T:∀v,F (Pt Ef x) v=none) (b:Frame) (g:List Nat) (U:List Item) (V:List Frame) :
  ∃(K:Loc) (X:World) (A:Value) (v:AV),Rel C (F.ext (Pt Ef x) 0 K) H X∧F.keep (F.ext (Pt Ef x) 0 K)∧VR (F.ext (Pt Ef x) 0 K) v A∧(∀d,x.o.dst=some d→Mz (M6 d) Ef=some v∧d<n) ∧
   Steps P (lone (b.atR a (.inRegion ops (x.i::g)::U)) V w) (lone (b.atR (a.put x.o.dst A) (.inRegion ops g::U)) V X):=by
 obtain⟨d,v0,g1,g2,g3,g4,g5⟩:=G;obtain⟨hg,Y,H',Z,h2,oa,gg,h3,h4,h5⟩:=g5 E D;have j:=zpg (P:=P) (o:=x.o) (by rw[←gj.ok.cl x hx];exact B) E H;rw[Z]at j;obtain⟨ob,m1,rfl,m3,m4,m5⟩:=j;rw[Heap.get_push_same]at h4;cases h4;obtain⟨M,n',sz,A,q1,q2⟩:=m5 F w a.eval (tp S);have hk:F.keep (F.ext (Pt Ef x) 0 ⟨w.heap.size,0,n',sz⟩):=λo' Y L' O=>by
  by_cases e:o'=Pt Ef x∧Y=0
  ·obtain⟨rfl,rfl⟩:=e;rw[T]at O;cases O
  ·rw[CM.ext_ne F _ e];exact O
 obtain⟨q3,q4⟩:=q2 _ (Pt Ef x) hk (CM.ext_same _ _ _ _);obtain⟨q5,_⟩:=R.bind I T h3 M ((q4 _ R.low.size).same h5);have hw:Region.wanted x.o (yielded ops a.tmps)=true:=by rw[←zfc S ops x.o];exact hg
 have Q:=zfk (P:=P) (o:=x.o) (E:=E) (H:=H) (by rw[Z];intro e;cases e);refine⟨_,_,A,v0,q5,hk,by rw[h2];exact q3,λd' z=>?_,.one (zpr ho hw Q q1)⟩;rw[g1]at z;cases z;exact⟨g3,g2⟩
def Zr(hk:Y6 P k)(gU:Fit P ops L)(hn:n≤M8){g:List DOp}{s:Nat}(gO:Oo g 0 0=some s)(M:∀x∈g,x∈L)(gV:∀i,i<ops.size→Oq s i)(jL:Wf L E0 Ef (Oq s) Ef)
  {Hb I:Nat→Heap} {ph:Nat→Nat} (hU:∀p,p≤(Nl M1 g).length→Ups (Hb p) (I p))
  (hA:∀q c,(Nl M1 g)[q]?=some c→Q4 P n ops k L E0 Ef c (I q) (Hb (q+1)))
  (hB:∀x∈g,x.c=.rd→∃r,r≤(Nl M1 g).length∧(∀q c,q<r→(Nl M1 g)[q]?=some c→Oq x.m c.i)∧∀p,r≤p→p≤(Nl M1 g).length→(∀q c,r≤q→q<p→(Nl M1 g)[q]?=some c→¬Oq c.m x.i)→Q4 P n ops k L E0 Ef x (I p) (I p))
  (jM:∀x∈g,x.c=.quiet→∀H2,Q4 P n ops k L E0 Ef x H2 H2)
  (hL:∀x∈g,x.c=.al→Qe P n ops k L E0 Ef x∨y9 P n ops L E0 Ef (Nl M1 g) Hb I x (ph x.i))
  (hI:∀x∈g,∀y∈g,x.c=.al→y.c=.al→¬Qe P n ops k L E0 Ef x→¬Qe P n ops k L E0 Ef y→ph x.i=ph y.i→Pt Ef x=Pt Ef y→x=y)
  {C0:CM} (b:Frame) (kk:List Item) (cs:List Frame) :
  ∀(j t:Nat) (listed:Array Bool) (jV:List Nat) (p:Nat) (jg:CM) (w:World) (a:Act) (gT:Tr AV),listed.size=ops.size→jV.length≤j→(∀i,i<ops.size→¬N2 listed i→i∈jV) →
   Wf L E0 Ef (N2 listed) gT→DC L (N2 listed)→Rel C jg (I p) w→ER n jg gT a.tmps→(∀q c,(Nl M1 g)[q]?=some c→(N2 listed c.i↔q<p))→p≤(Nl M1 g).length →
   C0.le jg→Pends P n ops k L E0 Ef g ph C0 jg (I p) (N2 listed) p →
   ∃C' w' a',C0.le C'∧Rel C C' (I (Nl M1 g).length) w'∧ER n C' Ef a'.tmps∧a'.defers=a.defers ∧
    Steps P (lone (b.atR a (.inRegion ops (Region.linearise.go .any ops j t listed [])::kk)) cs w) (lone (b.atR a' (.inRegion ops []::kk)) cs w'):=by
 have jz:∀x∈L,x∈g:=λx R=>by
  rcases (topo_seen gO x.i).1 (gV x.i (gU.ok.op x R).2) with h|⟨y,D,e⟩
  ·simp at h
  ·rwa [←gU.ok.inj y (M y D) x R e]
 have gX:∀(listed:Array Bool) (p:Nat) (jg:CM) (w:World) (a:Act) (gT:Tr AV),(∀i,i<ops.size→N2 listed i)→Wf L E0 Ef (N2 listed) gT→Rel C jg (I p) w→ER n jg gT a.tmps →
   (∀q c,(Nl M1 g)[q]?=some c→(N2 listed c.i↔q<p))→p≤(Nl M1 g).length→C0.le jg →
   ∃C' w' a',C0.le C'∧Rel C C' (I (Nl M1 g).length) w'∧ER n C' Ef a'.tmps∧a'.defers=a.defers ∧
    Steps P (lone (b.atR a (.inRegion ops []::kk)) cs w) (lone (b.atR a' (.inRegion ops []::kk)) cs w'):=by
  intro listed p jg w a gT hd hE hR E F hp G;have T:p=(Nl M1 g).length:=by
   rcases K0 p (Nl M1 g).length with h|h
   ·have hm:=K3 h;have:=(F p _ (H8 h)).1 (hd _ (gU.ok.op _ (M _ (V5.1 hm).1)).2);omega
   ·omega
  subst T;refine⟨jg,w,a,G,hR,⟨E.1,E.2.1,λt ht=>?_⟩,rfl,.refl _ _⟩;have e:Mz (M6 t) Ef=Mz (M6 t) gT:=by
   rw[hE t ht,jL t ht];unfold bj;have:Uo L (Oq s) t↔Uo L (N2 listed) t:=by
    constructor
    ·rintro⟨y,D,_,h⟩;exact⟨y,D,hd _ (gU.ok.op y D).2,h⟩
    ·rintro⟨y,D,_,h⟩;exact⟨y,D,gV _ (gU.ok.op y D).2,h⟩
   by_cases q:Uo L (Oq s) t
   ·rw[Ih q,Ih (this.1 q)]
   ·rw[Ig q,Ig (λjO=>q (this.2 jO))]
  rw[e];exact E.2.2 t ht
 intro j
 induction j with
 |zero =>
  intro t listed jV p jg w a gT hs hT gP hE hD hR E F hp G B;have hd:∀i,i<ops.size→N2 listed i:=λi hi=>by
   by_cases h:N2 listed i
   ·exact h
   ·have:=gP i hi h;have jP:jV=[]:=Iu J;rw[jP]at this;cases this
  exact gX listed p jg w a gT hd hE hR E F hp G
 |succ j ih =>
  intro t listed jV p jg w a gT hs hT gP hE hD hR E F hp G B;simp only[Region.linearise.go];change ∃C' w' a',C0.le C'∧Rel C C' (I (Nl M1 g).length) w'∧ER n C' Ef a'.tmps∧a'.defers=a.defers ∧
   Steps P (lone (b.atR a (.inRegion ops (match (Region.ready .any ops listed)[t%(Region.ready .any ops listed).length]? with
    |some i=>Region.linearise.go .any ops j (t/(Region.ready .any ops listed).length) (listed.setIfInBounds i true) [i]
    |none=>[].reverse)::kk)) cs w) (lone (b.atR a' (.inRegion ops []::kk)) cs w')
  cases hi:(Region.ready .any ops listed)[t%(Region.ready .any ops listed).length]? with
  |none =>
   have jA:Region.ready .any ops listed=[]:=by
    cases hr:Region.ready .any ops listed with
    |nil=>rfl
    |cons x xs =>
     rw[hr]at hi;have gj:t%(x::xs).length<(x::xs).length:=Nat.mod_lt _ N;rw[H8 gj]at hi;cases hi
   have hd:∀i,i<ops.size→N2 listed i:=by
    rcases zi1 gO (S:=N2 listed) (λgD hj=>by simp[Oq]at hj) with h|⟨x,R,h1,h2⟩
    ·intro i hi;obtain⟨x,R,rfl⟩:=gU.ok.all i hi;exact h x (jz x R)
    ·have jB:=M x R;obtain⟨ho,gj⟩:=gU.ok.op x jB;have:x.i∈Region.ready .any ops listed:=(zm4 hs).2 ⟨gj,h1,x.o,ho,λe he hb=>h2 _ (gU.ok.edge x jB e he hb)⟩;rw[jA]at this;cases this
   exact gX listed p jg w a gT hd hE hR E F hp G
  |some i =>
   dsimp only;rw[linearise_go_acc,List.reverse_singleton,List.singleton_append];obtain⟨gj,gB,o,ho,gE⟩:=(zm4 hs).1 (I8 hi);obtain⟨x,R,rfl⟩:=gU.ok.all i gj;have jC:=(gU.ok.op x R).1;rw[ho]at jC;cases jC;have H:∀gD,Oq x.m gD→N2 listed gD:=λgD hj=>by
    obtain⟨e,he,hb,rfl|⟨y,D,e1,e2⟩⟩:=gU.ok.msk x R gD hj
    ·exact gE e he hb
    ·exact hD y D (by rw[e1];exact gE e he hb) gD e2
   have gZ:Ub ops L E0 Ef x gT:=Za gU hD R H (.inl gB) hE;have U:=jz x R;have g8:∃p' O w1 xv v,C0.le O∧Rel C O (I p') w1∧ER n O (Oj x.o.dst v gT) (a.put x.o.dst xv).tmps∧(∀d,x.o.dst=some d→Mz (M6 d) Ef=some v∧d<n) ∧
     Steps P (lone (b.atR a (.inRegion ops (x.i::Region.linearise.go .any ops j (t/(Region.ready .any ops listed).length) (listed.setIfInBounds x.i true) [])::kk)) cs w)
      (lone (b.atR (a.put x.o.dst xv) (.inRegion ops (Region.linearise.go .any ops j (t/(Region.ready .any ops listed).length) (listed.setIfInBounds x.i true) [])::kk)) cs w1) ∧
     p'≤(Nl M1 g).length∧(∀q c,(Nl M1 g)[q]?=some c→((N2 listed c.i∨c.i=x.i)↔q<p')) ∧
     Pends P n ops k L E0 Ef g ph C0 O (I p') (λgD=>N2 listed gD∨gD=x.i) p':=by
    have gF:x.c≠.ch→∀q c,(Nl M1 g)[q]?=some c→((N2 listed c.i∨c.i=x.i)↔q<p):=λgG q c hq=>by
     rw[←F q c hq];constructor
     ·rintro (h|h)
      ·exact h
      ·obtain⟨hm,V⟩:=V5.1 (I3.2 ⟨_,hq⟩);rw[gU.ok.inj c (M c hm) x R h]at V;exact absurd (zc5.1 V) gG
     ·exact .inl
    have Y:∀r,r≤(Nl M1 g).length→(∀q c,q<r→(Nl M1 g)[q]?=some c→Oq x.m c.i)→r≤p:=λr u0 u1=>by
     rcases K0 p r with h|h
     ·have T:p<(Nl M1 g).length:=J
      have:=(F p _ (H8 T)).1 (H _ (u1 p _ h (H8 T)));omega
     ·exact h
    have gH:∀r q c,r≤q→q<p→(Nl M1 g)[q]?=some c→¬Oq c.m x.i:=λr q c _ hq jD hb=>by
     have hm:=(V5.1 (I3.2 ⟨_,jD⟩)).1;exact gB (hD c (M c hm) ((F q c jD).2 hq) _ hb)
    have X:=λ(gG:x.c≠.ch) (jQ:Q4 P n ops k L E0 Ef x (I p) (I p))=>show ∃p' O w1 xv v,C0.le O∧Rel C O (I p') w1∧ER n O (Oj x.o.dst v gT) (a.put x.o.dst xv).tmps∧(∀d,x.o.dst=some d→Mz (M6 d) Ef=some v∧d<n) ∧
     Steps P (lone (b.atR a (.inRegion ops (x.i::Region.linearise.go .any ops j (t/(Region.ready .any ops listed).length) (listed.setIfInBounds x.i true) [])::kk)) cs w)
      (lone (b.atR (a.put x.o.dst xv) (.inRegion ops (Region.linearise.go .any ops j (t/(Region.ready .any ops listed).length) (listed.setIfInBounds x.i true) [])::kk)) cs w1) ∧
     p'≤(Nl M1 g).length∧(∀q c,(Nl M1 g)[q]?=some c→((N2 listed c.i∨c.i=x.i)↔q<p')) ∧
     Pends P n ops k L E0 Ef g ph C0 O (I p') (λgD=>N2 listed gD∨gD=x.i) p' from by
     obtain⟨v,gI,Q⟩:=jQ gT gZ;obtain⟨O,w1,xv,av,q1,q2,q3,q4,q5,q6⟩:=zgo hk ho hR E gI b (Region.linearise.go .any ops j (t/(Region.ready .any ops listed).length) (listed.setIfInBounds x.i true) []) kk cs;refine⟨p,O,w1,xv,v,CM.le_trans G q1,q2,by rw[q4];exact (E.mono q1).put q5 q3,Q,q6,hp,gF gG,⟨B.known,B.inj,λy D z A K gC v=>?_⟩⟩;exact zth q1 (B.pend y D z A K (λh=>gC (.inl h))) (by rw[hR.nx];exact (B.known y D z A K).2) v
    cases V:x.c with
    |quiet=>exact X (by rw[V];exact λe=>An) (jM x U V _)
    |rd =>
     obtain⟨r,u0,u1,u2⟩:=hB x U V;exact X (by rw[V];exact λe=>An) (u2 p (Y r u0 u1) hp (gH r))
    |al =>
     by_cases gK:Qe P n ops k L E0 Ef x
     ·exact X (by rw[V];exact λe=>An) (gK _)
     ·rcases hL x U V with h|⟨u0,u1,u2,u3,u4⟩
      ·exact absurd h gK
      ·have gQ:=Y _ u0 u1;have jR:=u4 p gQ hp (gH _);obtain⟨k1,k2⟩:=B.known x U V gK gQ;have jE:=B.pend x U V gK gQ gB;obtain⟨Lc,w1,xv,v,q1,q2,q3,q4,q5⟩:=eo gU R V ho hR E gZ jR k2 jE b (Region.linearise.go .any ops j (t/(Region.ready .any ops listed).length) (listed.setIfInBounds x.i true) []) kk cs;refine⟨p,_,w1,xv,v,⟨λo v L h=>q2 _ _ _ (G.keep _ _ _ h),I5 G.nx (Ki _ _),λo v L h=>?_⟩,q1,(E.mono' q2).put (λt ht=>(q4 t ht).2) q3,q4,q5,hp,gF (by rw[V];exact λe=>An),
        ⟨B.known,B.inj,λy D z A K gC v=>?_⟩⟩
       ·by_cases e:o=Pt Ef x∧v=0
        ·obtain⟨rfl,rfl⟩:=e;exact .inr k1
        ·rw[CM.ext_ne _ _ e]at h;exact G.new _ _ _ h
       ·have gG:Pt Ef y≠Pt Ef x:=λe=>gC (.inr (by rw[B.inj y D x U z V A gK K gQ e]))
        rw[CM.ext_ne _ _ (λe=>gG e.1)];exact B.pend y D z A K (λh=>gC (.inl h)) v
    |ch =>
     obtain⟨q,hq⟩:=I3.1 (V5.2 ⟨U,zc5.2 V⟩);have jX:¬q<p:=λh=>gB ((F q x hq).2 h)
     have jY:=(H5.1 hq).1;have jS:q=p:=by
      rcases K0 p q with h|h
      ·have T:p<(Nl M1 g).length:=J
       have:=(F p _ (H8 T)).1 (H _ (chain_order gO p q _ x h (H8 T) hq));omega
      ·omega
     subst jS;obtain⟨v,gI,Q⟩:=hA q x hq gT gZ;obtain⟨O,w1,xv,av,q1,q2,q3,q4,q5,q6⟩:=zgo hk ho hR E gI b (Region.linearise.go .any ops j (t/(Region.ready .any ops listed).length) (listed.setIfInBounds x.i true) []) kk cs;have gL:=hU (q+1) J;have jF:O.le (O.lift (I (q+1)).next):=CM.le_lift (by rw[q2.nx];exact gL.next);have jZ:(I q).next≤(Hb (q+1)).next:=by rw[←hR.nx,←q2.nx];exact q1.nx
     have Z:∀y∈g,y.c=.al→¬Qe P n ops k L E0 Ef y→ph y.i=q+1→(Hb (q+1)).next≤Pt Ef y∧Pt Ef y<(I (q+1)).next:=λy D z A K=>by
      rcases hL y D z with h|⟨_,_,u2,u3,_⟩
      ·exact absurd h A
      ·rw[K]at u2 u3;exact⟨u2,u3⟩
     have j3:=gL.next;refine⟨q+1,O.lift (I (q+1)).next,w1,xv,v,CM.le_trans G (CM.le_trans q1 jF),q2.ups gL,by rw[q4];exact ((E.mono q1).put q5 q3).mono jF,Q,q6,J,λq' c gM=>?_,⟨λy D z A K=>?_,λy D jO hz z gR A gS K j4 jG=>?_,λy D z A K gC v=>?_⟩⟩
     ·rw[F q' c gM];constructor
      ·rintro (h|h)
       ·omega
       ·have hm:=(V5.1 (I3.2 ⟨_,gM⟩)).1;have e:=gU.ok.inj c (M c hm) x R h;subst e;rcases Nat.lt_trichotomy q' q with h'|h'|h'
        ·omega
        ·omega
        ·exact absurd (H _ (chain_order gO q q' c c h' hq gM)) gB
      ·intro h;rcases K0 q' q with h'|h'
       ·exact .inl h'
       ·have:q'=q:=J
        subst this;rw[hq]at gM;cases gM;exact .inr rfl
     ·rcases K0 (ph y.i) (q+1) with h|h
      ·obtain⟨k1,k2⟩:=B.known y D z A J;exact⟨k1,J⟩
      ·obtain⟨k1,k2⟩:=Z y D z A J;have:=(CM.le_trans G q1).nx;rw[q2.nx]at this;exact⟨I5 this k1,k2⟩
     ·rcases K0 (ph y.i) (q+1) with h|h<;>rcases K0 (ph jO.i) (q+1) with h'|h'
      ·exact B.inj y D jO hz z gR A gS J J jG
      ·have k1:=(B.known y D z A J).2;have k2:=(Z jO hz gR gS J).1;omega
      ·have k1:=(B.known jO hz gR gS J).2;have k2:=(Z y D z A J).1;omega
      ·exact hI y D jO hz z gR A gS J jG
     ·show O.f (Pt Ef y) v=none;rcases K0 (ph y.i) (q+1) with h|h
      ·exact zth q1 (B.pend y D z A J (λh=>gC (.inl h))) (by rw[hR.nx];exact (B.known y D z A J).2) v
      ·have k1:=(Z y D z A J).1;cases e:O.f (Pt Ef y) v with
       |none=>rfl
       |some L'=>have:=q2.fresh _ _ _ e;omega
   obtain⟨p',O,w1,xv,v,q1,q2,jH,Q,q6,jT,jI,jK⟩:=g8;have gg:=Zh (listed:=listed) (i:=x.i) J;have gY:N2 (listed.setIfInBounds x.i true)=λgD=>N2 listed gD∨gD=x.i:=funext λgD=>propext (gg gD)
   have jU:Wf L E0 Ef (N2 (listed.setIfInBounds x.i true)) (Oj x.o.dst v gT):=by
    have:=hE.put gU hn R Q;rw[gY];exact this
   obtain⟨C2,w2,a2,r1,r2,r3,r4,r5⟩:=ih (t/(Region.ready .any ops listed).length) (listed.setIfInBounds x.i true) (jV.erase x.i) p' O w1 (a.put x.o.dst xv) (Oj x.o.dst v gT) (by simpa using hs)
    (by
     have:=List.length_erase_of_mem (gP x.i gj gB);omega)
    (λgD hj g9=>by
     rw[gg]at g9;have h1:¬N2 listed gD:=λh=>g9 (.inl h)
     have h2:gD≠x.i:=λh=>g9 (.inr h)
     exact (List.mem_erase_of_ne h2).2 (gP gD hj h1))
    jU
    (λy D hd gD hj=>by
     rw[gg]at hd ⊢;rcases hd with hd|hd
     ·exact .inl (hD y D hd gD hj)
     ·rw[gU.ok.inj y D x R hd]at hj;exact .inl (H gD hj))
    q2 jH (λq c hq=>by rw[gg];exact jI q c hq) jT q1 (by rw[gY];exact jK)
   refine⟨C2,w2,a2,r1,r2,r3,?_,Steps.trans q6 r5⟩;rw[r4];cases x.o.dst<;>rfl
def zrl(hm:P.follows .mixedOrders=true)(hk:Y6 P k){w:World}{a:Act}{id:Nat}(Z:Rel C F B w)(hE:ER n F I a.tmps)
  (h:(rz P n ops).run k I B=.ok vV U) (b:Frame) (kk:List Item) (cs:List Frame) :
  ∃R w' S,F.le R∧Rel C R U w'∧ER n R vV S.tmps∧S.defers=a.defers ∧
   Steps P (lone (b.atR a (.code (.region id ops true)::kk)) cs w) (lone (b.atR S kk) cs w'):=by
 unfold rz at h;dsimp only at h;generalize hL:Pq P ops ops.toList [] 0=L at h;have gg:LOk P ops L:=hL ▸ de P ops;generalize hO:zr L (Nl M1 L)=E at h;have K:∀x∈E,x∈L:=λx T=>zsp x (by rw[hO];exact T)
 split at h
 ·rename_i hd;unfold zt1 at hd;split at hd
  ·cases hd
  ·rename_i s V;split at hd
   ·cases hd
   ·rename_i hs;split at hd
    ·cases hd
    ·rename_i gj;have gB:s=2^ops.size-1:=Ic (by simpa using hs);have gH:Fit P ops L:=⟨gg,(dstsOk_spec (by simpa using gj)).2,λx T y g=>zjw (zjw hd x T) y g⟩;have hn:=hE.2.1;have h0:Wf L I vV (Oq 0) I:=λt ht=>by
      unfold bj;rw[Ig];rintro⟨y,_,g,_⟩;simp[Oq]at g
     obtain⟨r0,_,Hb,O,ph,r1,r2,ru,r3,r4,r5,ra,ri,_⟩:=m8 (E0:=I) gH hn E [] 0 0 s I B U h V K (λx T=>by cases T) h0 (λy _ g=>by simp[Oq]at g);have X:∀i,i<ops.size→Oq s i:=λi hi=>by
      unfold Oq;rw[gB,Nat.testBit_two_pow_sub_one];simpa using hi
     have A:∀i,¬N2 (Array.replicate ops.size false) i:=λi hi=>by
      unfold N2 at hi;rw[I6,Array.getElem?_replicate]at hi;split at hi<;>cases hi
     have Q:=ru 0 (K8 _);rw[r1]at Q;have gC:Rel C (F.lift (O 0).next) (O 0) w.drew:=Z.drew.ups Q;have M:F.le (F.lift (O 0).next):=CM.le_lift (by rw[Z.nx];exact Q.next);have D:∀y∈E,y.c=.al→¬Qe P n ops k L I vV y→ph y.i=0→B.next≤Pt vV y∧Pt vV y<(O 0).next:=λy g j z G=>by
      rcases ra y g j with h|⟨_,_,u2,u3,_⟩
      ·exact absurd h z
      ·rw[G]at u2 u3;rw[r1]at u2;exact⟨u2,u3⟩
     have Y:Pends P n ops k L I vV E ph F (F.lift (O 0).next) (O 0) (N2 (Array.replicate ops.size false)) 0:=by
      refine⟨λy g j z G=>?_,λy g gI hz j gD z gE G gG gF=>ri y g gI hz j gD z gE J gF,λy g j z G _ v=>?_⟩
      ·obtain⟨k1,k2⟩:=D y g j z J;rw[←Z.nx]at k1;exact⟨k1,k2⟩
      ·obtain⟨k1,k2⟩:=D y g j z J;show F.f (Pt vV y) v=none;cases e:F.f (Pt vV y) v with
       |none=>rfl
       |some L'=>have:=Z.fresh _ _ _ e;omega
     have H:Region.schedule (P.follows .mixedOrders) ops (w.tape w.drawn (.order b.fn id))=Region.linearise.go .any ops ops.size (w.tape w.drawn (.order b.fn id)) (Array.replicate ops.size false) []:=by
      simp only[Region.schedule,hm,Bool.true_or,Kw];rfl
     obtain⟨R,w',S,q1,q2,q3,q4,q5⟩:=Zr hk gH hn V K X r0 ru r3 r4 r5 ra ri b kk cs ops.size (w.tape w.drawn (.order b.fn id)) (Array.replicate ops.size false) (List.range ops.size) 0 (F.lift (O 0).next) w.drew a I
      N N (λi hi _=>Co) (λt ht=>by
       unfold bj;rw[Ig];rintro⟨y,_,g,_⟩;exact A _ g) (λy _ g=>absurd g (A _)) gC (hE.mono M) (λq c _=>⟨λh=>absurd h (A _),λh=>absurd h (Mf q)⟩) (K8 _) M Y
     refine⟨R,w',S,q1,by rw[←r2];exact q2,q3,q4,.head stepR_region_draw ?_⟩;rw[H];exact Steps.trans q5 (.one stepR_region_end)
 ·cases h
def zlf(D:Y6 P k){w:World}{a:Act}{id:Nat}(E:Rel C F B w)(G:ER n F I a.tmps)
  (h:(bw P n ops ops.toList).run k I B=.ok vV U) (b:Frame) (A:List Item) (cs:List Frame) :
  ∃g z j,F.le g∧Rel C g U z∧ER n g vV j.tmps∧j.defers=a.defers ∧
   Steps P (lone (b.atR a (.code (.region id ops false)::A)) cs w) (lone (b.atR j A) cs z):=by
 obtain⟨g,z,j,H,K,M,O,Q⟩:=zn8 D b A cs ops.toList 0 rfl E G h;refine⟨g,z,j,H,K,M,O,.head stepR_region ?_⟩;rw[List.range_eq_range'];exact Steps.trans Q (.one stepR_region_end)
end Zr
end
section
open Go.RowKit (Below)
inductive DR (C:CM):List Nat→List Deferred→Prop where
 |nil:DR C [] []
 |cons {d:Nat} {L:Loc} {l:List Nat} {r:List Deferred} (h:C d 0=some L) (hs:DR C l r):DR C (d::l) ({ target:=.collected L.b,args:=#[] }::r)
def DR.mono{C C':CM}(h:C.le C'):∀{l:List Nat} {r:List Deferred},DR C l r→DR C' l r
 |_,_,.nil=>.nil
 |_,_,.cons e es=>.cons (h.keep _ _ _ e) (DR.mono h es)
def RO(A:CM)(g r:Option Nat):Prop:=match g,r with
 |none,none=>True
 |some l,some j=>∃z,A l 0=some z∧z.b=j
 |_,_=>False
def RO.mono{C C':CM}(h:C.le C'){ro r:Option Nat}(k:RO C ro r):RO C' ro r:=by
 cases ro<;>cases r<;>simp only[RO]at k ⊢;obtain⟨L,h1,h2⟩:=k;exact⟨L,h.keep _ _ _ h1,h2⟩
def Rel.putBlock{gF:CM}{H:Heap}{w:World}(h:Rel C gF H w){o:Nat}{L:Loc}(hL:gF o 0=some L){ob:AObj}{x:Obj}(hB:C.heap.size≤L.b)(gj:∀c len gg ro,ob≠.cells c len gg ro)
  (gB:(w.putObj L.b x).heap[L.b]?=some x→O2 C.heap.size gF (w.putObj L.b x) o ob):Rel C gF (H.put o ob) (w.putObj L.b x):=by
 have gC:=h.lt _ _ _ hL;refine h.put (h.fresh _ _ _ hL) ob (h.low.trans ⟨rfl,rfl,rfl,N,λk hk=>World.putObj_heap_other J⟩) N (λo' v L' gD gE=>World.putObj_heap_other (λe=>gD ?_)) (gB (World.putObj_heap_same gC)) (λc len gg ro e=>absurd e (gj c len gg ro));exact (h.excl _ _ _ _ _ _ hL gE e.symm hB).symm
def zbi{P:Program}{w:World}{o:Nat}{r:Loop}(h:w.heap[o]?=some (.loop r))(fn:FuncId)(tmps:Array Value)(g:Array Tmp)(assign body:Code) :
  (Instr.enterLoop fn tmps g assign body (some o)).run P w =
   .ok (w.heap.size,[]) (w.alloc (.loop { state:=.ready,pending:=none,fn,tmps,params:=g,assign,body,defers:=r.defers })):=by
 unfold Instr.enterLoop;simp only[Sem.run_bind,run_getLoop h,run_newObj_alloc,Result.andThen,Sem.run_pure]
def zkr{P:Program}{f n:Nat}{j:Array Tmp}{as:Code}{l:Nat}{O:List Nat}(h:zds f n j as vI V I Z B=some (l,O,U))
  {w:World} {Q:List Deferred} {r:Option Nat} (g:Rel C F B w) (R:ER n F I v8) (S:DR F Z Q) (A:RO F V r) :
  ∃K T mark X,F.le K∧Rel C K U T∧(Instr.enterLoop f v8 j as vI r).run P w=.ok (X.b,mark) T∧K l 0=some X∧DR K O (mark++Q):=by
 unfold zds at h
 ·split at h
  ·cases h;cases r with
   |some r=>exact A.elim
   |none =>
    obtain⟨D,L⟩:=g.push (.defd true) (.deferred (some [])) 0 0 (λX z=>by
     rw[CM.ext_same]at z;cases z;exact⟨g.low.size,Wl _ _⟩)
    have E:(F.ext B.next 0 ⟨w.heap.size,0,0,0⟩) B.next 0=some ⟨w.heap.size,0,0,0⟩:=CM.ext_same _ _ _ _;generalize F.ext B.next 0 ⟨w.heap.size,0,0,0⟩=C1 at D L E;obtain⟨M,G⟩:=D.push (ob:=.loop .ready none f n I j as vI B.next) (x:=.loop { state:=.ready,pending:=none,fn:=f,tmps:=v8,params:=j,assign:=as,body:=vI,defers:=w.heap.size }) 0 0 (λX z=>by
     rw[CM.ext_same]at z;cases z;refine⟨D.low.size,v8,⟨w.heap.size,0,0,0⟩,(CM.le_ext _ (D.next_none 0) (.inr (Lm D.nx))).keep _ _ _ E,Wl _ _,(R.mono L).mono (CM.le_ext _ (D.next_none 0) (.inr (Lm D.nx)))⟩)
    refine⟨_,_,[{ target:=.collected w.heap.size,args:=#[] }],⟨w.heap.size+1,0,0,0⟩,CM.le_trans L G,M,?_,?_,?_⟩
    ·exact run_enterLoop_outer f v8 j as vI
    ·have:=CM.ext_same C1 (B.push (.defd true)).next 0 ⟨(w.alloc (.deferred (some []))).heap.size,0,0,0⟩;rw[World.size_alloc]at this ⊢;exact this
    ·exact .cons (G.keep _ _ _ E) (S.mono (CM.le_trans L G))
  ·rename_i lo;split at h
   ·rename_i d hg;cases h;cases r with
    |none=>exact A.elim
    |some r =>
     obtain⟨Lo,H,rfl⟩:=A;obtain⟨hB,gg,Y,hd,hw,_⟩:=g.obj _ _ (g.fresh _ _ _ H) hg Lo H;obtain⟨M,G⟩:=g.push (ob:=.loop .ready none f n I j as vI d) (x:=.loop { state:=.ready,pending:=none,fn:=f,tmps:=v8,params:=j,assign:=as,body:=vI,defers:=Y.b }) 0 0 (λX z=>by
      rw[CM.ext_same]at z;cases z;exact⟨g.low.size,v8,Y,(CM.le_ext _ (g.next_none 0) (.inr (Lm g.nx))).keep _ _ _ hd,Wl _ _,R.mono (CM.le_ext _ (g.next_none 0) (.inr (Lm g.nx)))⟩)
     refine⟨_,_,[],⟨w.heap.size,0,0,0⟩,G,M,?_,CM.ext_same _ _ _ _,S.mono G⟩;exact zbi hw f v8 j as vI
   ·cases h
def ziv{P:Program}{l:Nat}{L:Option Code}(h:zke l B=some (L,U)){w:World}(E:Rel C F B w){M:Loc}(D:F l 0=some M) :
  ∃j,(Instr.endLoop M.b).run P w=.ok L j∧Rel C F U j:=by
 unfold zke at h;split at h
 ·rename_i st g f n V O a b d Q;have G:st≠.busy→(some (g,B.put l (.loop .exhausted g f n V O a b d))=some (L,U))→∃j,(Instr.endLoop M.b).run P w=.ok L j∧Rel C F U j:=λH e=>by
   cases e;obtain⟨K,R,S,hd,hw,T⟩:=E.obj _ _ (E.fresh _ _ _ D) Q M D;refine⟨_,run_endLoop hw H,E.putBlock D K (λ_ _ _ _ e=>An) (λz X A=>?_)⟩;rw[D]at A;cases A;exact⟨K,R,S,hd,z,T⟩
  split at h
  ·cases h
  ·rename_i I;exact G (λe=>I e) h
 ·cases h
def zko{P:Program}{w:World}{ρ:Operand→Value}{gop:Operand}(G:∀v,ρ (.const v)=v)(C:VR F E (ρ gop)){l:Nat}{j:Loc}(H:F l 0=some j){f:Nat}{args:List AV}
  (h:bh P E [.fn (.yield l) [] []]=.call (.fn f) args) :
  ∃d D,(resolve ρ (rangeCall gop j.b) 0).run P w=.ok d w∧(invoke d.target d.args).run P w=.ok (.enter f (List.toArray D)) w∧VRs F args D:=by
 have I:VRs F [AV.fn (.yield l) [] []] [Value.func (.yield j.b) #[] #[]]:=.cons (.fn (.yield H) .nil .nil) .nil;generalize z:ρ gop=gv at C;have g:∀fn first cap,gv=.func fn first cap→(resolve ρ (rangeCall gop j.b) 0).run P w=.ok { target:=.fn fn cap,args:=first++#[Value.func (.yield j.b) #[] #[]] } w:=by
  intro fn first cap e
  subst e;simp only[resolve,z,Deferred.ofValue,Sem.run_pure];simp[G]
 unfold bh at h;split at h
 ·rename_i Q first cap
  split at h
  ·rename_i K;cases h;cases C with
   | @fn _ R _ _ A B L M O =>
    cases L with
    |same =>
     refine⟨_,A.toList++[Value.func (.yield j.b) #[] #[]]++B.toList,g _ _ _ rfl,?_,(M.append I).append O⟩;have:(A++#[Value.func (.yield j.b) #[] #[]]++B)=(A.toList++[Value.func (.yield j.b) #[] #[]]++B.toList).toArray:=N
     rw[←this];exact z94 K _
  ·cases h
 ·cases h
 ·cases h
def Zt(P:Program)(b:Frame)(m:Machine)(cs:List Frame)(A:List Item)(j:Act)(z:World):Ex→Prop
 |.normal=>Steps P m (lone (b.atR j A) cs z)
 |.exit id=>∃g,exitTo id g=exitTo id A∧Steps P m (lone (b.atR j (.code (.exit id)::g)) cs z)
 |.ret=>∃g,Steps P m (lone (b.atR j (.code .ret::g)) cs z)
def Zt.head{P:Program}{b:Frame}{m m1:Machine}{cs:List Frame}{kk:List Item}{a':Act}{x:Ex}(h:Steps P m m1)(k:Zt P b m1 cs kk a' C x):Zt P b m cs kk a' C x:=by
 cases x with
 |normal=>exact Steps.trans h k
 |exit id=>obtain⟨k1,e,s⟩:=k;exact⟨k1,e,Steps.trans h s⟩
 |ret=>obtain⟨k1,s⟩:=k;exact⟨k1,Steps.trans h s⟩
section scope
variable {P : Program} {b : Frame} {a : Act} {k : List Item} {cs : List Frame} {w : World} {c : Code}
def stepR_scope:step P (lone (b.atR a (.code (.scope c)::k)) cs w)=.next (lone (b.atR a (.code c::.inScope c::k)) cs w):=step_lone_go Fo
def stepR_inScope:step P (lone (b.atR a (.inScope c::k)) cs w)=.next (lone (b.atR a k) cs w):=step_lone_go Fo
end scope
structure Both (w0:World) (n:Nat) (C:CM) (E:Tr AV) (D:List Nat) (H:Heap) (a:Act) (w:World):Prop where
 rel:Rel w0 C H w
 env:ER n C E a.tmps
 defs:DR C D a.defers
def po(P:Program)(f n:Nat)(G:CodeF)(c:Code):Prop :=
 ∀(k:Py),Y6 P k→∀(m:Nat) (g:Option Nat) (j:World) (H:CM) (I:Tr AV) (K:List Nat) (L:Heap) (a:Act) (w:World) (b:Frame) (x:Ex) (z:Tr AV) (A:List Nat) (B:Heap),
  Both j n H I K L a w→b.fn=f→RO H g b.roundOf→G.run k m g I K L=.ok x z A B→∀(C:List Item) (cs:List Frame),
  ∃D E F,H.le D∧Both j n D z A B F E∧Zt P b (lone (b.atR a (.code c::C)) cs w) cs C F E x
def ap{P:Program}(hm:P.follows .mixedOrders=true)(f n:Nat):∀(c:Code),po P f n (O7 P f n c) c
 |.skip=>by
  intro k D m E G Q S T U a w b x L M O j I g h A cs;cases h;exact⟨Q,w,a,CM.le_refl Q,j,.one stepR_skip⟩
 |.label l=>by
  intro k D m E G Q S T U a w b x L M O j I g h A cs;cases h;exact⟨Q,w,a,CM.le_refl Q,j,.one stepR_label⟩
 |.exit id=>by
  intro k D m E G Q S T U a w b x L M O j I g h A cs;cases h;exact⟨Q,w,a,CM.le_refl Q,j,A,rfl,.refl _ _⟩
 |.ret=>by
  intro k D m E G Q S T U a w b x L M O j I g h A cs;cases h;exact⟨Q,w,a,CM.le_refl Q,j,A,.refl _ _⟩
 |.region id ops draw=>by
  intro k D m E G Q S T U a w b x L M O j I g h A cs;simp only[O7]at h;cases draw with
  |true =>
   dsimp only at h;split at h
   ·cases h
   ·rename_i Z Y hr;cases h;obtain⟨C',w',a',z,C,B,q4,q5⟩:=zrl hm D (id:=id) j.rel j.env hr b A cs;exact⟨C',w',a',z,⟨C,B,by rw[q4];exact j.defs.mono z⟩,q5⟩
  |false =>
   dsimp only at h;split at h
   ·cases h
   ·rename_i Z Y hr;cases h;obtain⟨C',w',a',z,C,B,q4,q5⟩:=zlf D (id:=id) j.rel j.env hr b A cs;exact⟨C',w',a',z,⟨C,B,by rw[q4];exact j.defs.mono z⟩,q5⟩
 |.seq c1 c2=>by
  intro k D m E G Q S T U a w b x L M O j I g h A cs;simp only[O7]at h;cases h1:(O7 P f n c1).run k m E S T U with
  |no=>rw[h1]at h;cases h
  |ok x1 Z D1 Y =>
   rw[h1]at h;obtain⟨H,F,K,z,C,B⟩:=ap hm f n c1 k D m E G Q S T U a w b x1 Z D1 Y j I g h1 (.code c2::A) cs;cases x1 with
   |normal =>
    dsimp only at h;obtain⟨C2,w2,a2,r1,r2,r3⟩:=ap hm f n c2 k D m E G H Z D1 Y K F b x L M O C I (g.mono z) h A cs;exact⟨C2,w2,a2,CM.le_trans z r1,r2,r3.head (.head stepR_seq B)⟩
   |exit id =>
    cases h;obtain⟨R,e,s⟩:=B;exact⟨H,F,K,z,C,R,e,.head stepR_seq s⟩
   |ret =>
    cases h;obtain⟨R,s⟩:=B;exact⟨H,F,K,z,C,R,.head stepR_seq s⟩
 |.cond c c1 c2=>by
  intro k D m E G Q S T U a w b x L M O j I g h A cs;simp only[O7]at h;split at h
  ·rename_i t ht;have hv:=tp j.env c _ ht;have gE:a.eval c=.bool t:=by
    generalize a.eval c=v at hv;cases hv;rfl
   split at h
   ·obtain⟨H,F,K,z,C,B⟩:=ap hm f n c1 k D m E G Q S T U a w b x L M O j I g h A cs;exact⟨H,F,K,z,C,B.head (.one (by rw[stepR_cond gE];rfl))⟩
   ·obtain⟨H,F,K,z,C,B⟩:=ap hm f n c2 k D m E G Q S T U a w b x L M O j I g h A cs;exact⟨H,F,K,z,C,B.head (.one (by rw[stepR_cond gE];rfl))⟩
  ·cases h
 |.block id c=>by
  intro k D m E G Q S T U a w b x L M O j I g h A cs;simp only[O7]at h;split at h
  ·cases h
  ·rename_i x1 Z D1 Y h1;obtain⟨H,F,K,z,C,B⟩:=ap hm f n c k D m E G Q S T U a w b x1 Z D1 Y j I g h1 (.inBlock id::A) cs;cases x1 with
   |normal =>
    cases h;exact⟨H,F,K,z,C,Steps.head stepR_block (Steps.trans B (.one stepR_inBlock))⟩
   |exit gF =>
    dsimp only at h;obtain⟨R,e,s⟩:=B;split at h
    ·rename_i gg;cases h;have gG:gF=id:=Ic gg;subst gG;refine⟨H,F,K,z,C,Steps.head stepR_block (Steps.trans s (.one (stepR_exit ?_)))⟩;rw[e];simp[exitTo]
    ·rename_i gg;cases h;refine⟨H,F,K,z,C,R,?_,.head stepR_block s⟩;rw[e];have gI:¬id=gF:=λq=>by subst q;rw[I0]at gg;cases gg
     simp[exitTo,gI]
   |ret =>
    cases h;obtain⟨R,s⟩:=B;exact⟨H,F,K,z,C,R,.head stepR_block s⟩
 |.scope c=>by
  intro k D m E G Q S T U a w b x L M O j I g h A cs;simp only[O7]at h;obtain⟨H,F,K,z,C,B⟩:=ap hm f n c k D m E G Q S T U a w b x L M O j I g h (.inScope c::A) cs;refine⟨H,F,K,z,C,?_⟩;cases x with
  |normal=>exact Steps.head stepR_scope (Steps.trans B (.one stepR_inScope))
  |exit id =>
   obtain⟨R,e,s⟩:=B;exact⟨R,e,.head stepR_scope s⟩
  |ret =>
   obtain⟨R,s⟩:=B;exact⟨R,.head stepR_scope s⟩
 |.loop c=>by
  intro k D m E G Q S T U a w b x L M O j I g h A cs;simp only[O7]at h;have ih:=ap hm f n c;have gK:∀(gP:Nat) (Q:CM) (S:Tr AV) (T:List Nat) (U:Heap) (a:Act) (w:World),Both G n Q S T U a w→RO Q E b.roundOf→Xq ((O7 P f n c).run k m E) gP S T U=.ok x L M O →
    ∃C' w' a',Q.le C'∧Both G n C' L M O a' w'∧Zt P b (lone (b.atR a (.code c::.inLoop c::A)) cs w) cs A a' w' x:=by
   intro gP
   induction gP with
   |zero=>intro Q S T U a w _ _ h;cases h
   |succ gP gL =>
    intro Q S T U a w j g h;simp only[Xq]at h;split at h
    ·cases h
    ·rename_i x1 Z D1 Y h1;obtain⟨H,F,K,z,C,B⟩:=ih k D m E G Q S T U a w b x1 Z D1 Y j I g h1 (.inLoop c::A) cs;cases x1 with
     |normal =>
      dsimp only at h;obtain⟨C2,w2,a2,r1,r2,r3⟩:=gL H Z D1 Y K F C (g.mono z) h;exact⟨C2,w2,a2,CM.le_trans z r1,r2,r3.head (Steps.trans B (.one stepR_inLoop))⟩
     |exit id =>
      cases h;obtain⟨R,e,s⟩:=B;exact⟨H,F,K,z,C,R,e,s⟩
     |ret =>
      cases h;obtain⟨R,s⟩:=B;exact⟨H,F,K,z,C,R,s⟩
  obtain⟨H,F,K,z,C,B⟩:=gK m Q S T U a w j g h;exact⟨H,F,K,z,C,B.head (.one stepR_loop)⟩
 |.rangeFunc gQ ps as bd=>by
  intro k D m E G Q S T U a w b x L M O j I g h A cs;simp only[O7]at h;split at h
  ·cases h
  ·rename_i gv hg;split at h
   ·cases h
   ·rename_i l D1 Y he;obtain⟨H,F,mark,gR,z,C,B,q4,q5⟩:=zkr (P:=P) he j.rel j.env j.defs g;split at h
    ·rename_i t gO gD;split at h
     ·cases h
     ·rename_i v H2 gM;obtain⟨d,vs,s1,s2,s3⟩:=zko (P:=P) (w:=F) (ρ:=a.eval) (gop:=gQ) (λ_=>rfl) ((tp j.env gQ _ hg).mono z) q4 gD;have gj:=D _ _ _ _ _ _ _ _ _ C s3 gM (b.atR { a with defers:=mark++a.defers } (.inRangeFunc gR.b::A)::cs);obtain⟨C2,w2,v',fr,t1,t2,t3,t4,t5,t6⟩:=gj;rw[←I]at B;have gH:=stepR_rangeFunc (P:=P) (b:=b) (a:=a) (k:=A) (cs:=cs) (w:=w) B s1 s2;have V:=step_leave_returned (c:=b.atR { a with defers:=mark++a.defers } (.inRangeFunc gR.b::A)) (cs:=cs) t6;rw[finish_atR_inRangeFunc]at V;have gB:DR C2 D1 ({ a with defers:=mark++a.defers }:Act).defers:=q5.mono t1;have gC:ER n C2 S ({ a with defers:=mark++a.defers }:Act).tmps:=(j.env.mono z).mono t1;split at h
      ·cases h
      ·rename_i H3 X;cases h;obtain⟨w3,u1,u2⟩:=ziv (P:=P) X t2 (t1.keep _ _ _ q4);refine⟨C2,w3,{ a with defers:=mark++a.defers },CM.le_trans z t1,⟨u2,gC,gB⟩,?_⟩;refine Steps.head gH (Steps.trans t4 (.head V (.one ?_)));rw[stepR_endRangeFunc u1];rfl
      ·rename_i c H3 X;obtain⟨w3,u1,u2⟩:=ziv (P:=P) X t2 (t1.keep _ _ _ q4);split at h
       ·cases h
       ·rename_i x1 hx;cases h;have go:Steps P (lone (b.atR a (.code (.rangeFunc gQ ps as bd)::A)) cs w) (lone (b.atR { a with defers:=mark++a.defers } (.code c::A)) cs w3) :=
         .head gH (Steps.trans t4 (.head V (.one (by rw[stepR_endRangeFunc u1];rfl))))
        refine⟨C2,w3,{ a with defers:=mark++a.defers },CM.le_trans z t1,⟨u2,gC,gB⟩,?_⟩;unfold exOf at hx;split at hx
        ·cases hx;exact⟨A,go⟩
        ·cases hx;exact⟨A,rfl,go⟩
        ·cases hx
    ·cases h
 |.goto _=>by
  intro k D m E G Q S T U a w b x L M O j I g h A cs;cases h
 |.refuse _=>by
  intro k D m E G Q S T U a w b x L M O j I g h A cs;cases h
end
section
open Go.RowKit (Below)
def ff{r:ResultVar}{n:Nat}{w:World}{a:Act}(P:Rel C F B w)(D:ER n F I a.tmps){v:AV}(h:(resF z r).run I B=some v) :
  ∃x,(match r with
   |.tmp t=>pure (a.tmps.getD t undef)
   |.cell c t=>do loadVar t (←asAddr (a.tmps.getD c undef)):Sem Value).run z w=.ok x w∧VR F v x:=by
 have g:∀t,a.eval (.tmp t)=a.tmps.getD t undef:=λt=>by
  show a.tmps.getD t undef=_;rfl
 cases r with
 |tmp t =>
  simp only[resF]at h;have:=tp D _ _ h;rw[g]at this;exact⟨_,by simp[Sem.run_pure],this⟩
 |cell c t =>
  unfold resF at h;dsimp only at h ⊢;split at h
  ·rename_i n E Q;dsimp only at h;split at h
   ·rename_i o G i H;split at h
    ·rename_i l K;cases h;have j:=tp D _ _ H;rw[g]at j;generalize a.tmps.getD c undef=T at j;cases j with
     |ptr L =>
      obtain⟨M,R,O,S,U,_⟩:=P.read z K L;exact⟨.agg M.toArray,by simp[asAddr,loadVar,tu E,Rg Q,R],.agg (by simpa using O) S⟩
    ·cases h
   ·cases h
  ·rename_i n E Q;dsimp only at h;split at h
   ·rename_i o G i H;split at h
    ·rename_i X K;cases h;have j:=tp D _ _ H;rw[g]at j;generalize a.tmps.getD c undef=T at j;cases j with
     |ptr L =>
      obtain⟨M,R,O,S,U,Y,V⟩:=P.read z K L;have A:=V 0 J
      match M,O with
      |[u],.cons hu .nil =>
       simp only[La,Iq]at A;exact⟨u,by simp[asAddr,loadVar,tu E,A],hu⟩
    ·cases h
   ·cases h
  ·cases h
def zqe{M:Program}{n:Nat}{D:World}{E:CM}{O:Tr AV}{P:Heap}{w:World}{a:Act}(B:Rel D E P w)(C:ER n E O a.tmps):∀{l:List ResultVar} {j:List AV},(kc M l).run O P=some j →
  ∃z,(l.mapM fun
   |.tmp t=>pure (a.tmps.getD t undef)
   |.cell c t=>do loadVar t (←asAddr (a.tmps.getD c undef)):Sem (List Value)).run M w=.ok z w∧VRs E j z
 |[],j,h=>by
  cases h;exact⟨[],by simp[Sem.run_pure],.nil⟩
 |r::l,j,h=>by
  simp only[kc]at h;split at h
  ·cases h
  ·rename_i v F;split at h
   ·cases h
   ·rename_i G A;cases h;obtain⟨x,H,I⟩:=ff B C F;obtain⟨z,K,L⟩:=zqe B C A;refine⟨x::z,?_,.cons I L⟩;rw[List.mapM_cons,Sem.run_bind];have g:=H;cases r<;>(dsimp only at g ⊢;rw[g];simp only[Result.andThen_ok,Sem.run_bind,K,Sem.run_pure])
def zig{fn:Func}{n:Nat}{w:World}{a:Act}(A:Rel C F B w)(D:ER n F I a.tmps)(h:(kc z fn.results.toList).run I B=some K) :
  ∃x,(results fn a.tmps).run z w=.ok x w∧VR F (match K with
   |[v]=>v
   |l=>.tup l) x:=by
 obtain⟨g,E,G⟩:=zqe A D h;have hm:(fn.results.mapM fun
   |.tmp t=>pure (a.tmps.getD t undef)
   |.cell c t=>do loadVar t (←asAddr (a.tmps.getD c undef)):Sem (Array Value)).run z w=.ok g.toArray w:=by
  rw[Array.mapM_eq_mapM_toList];rw[map_eq_pure_bind,Sem.run_bind,E];rfl
 refine⟨if h:g.toArray.size=1 then g.toArray[0] else .tuple g.toArray,?_,?_⟩
 ·unfold results;rw[Sem.run_bind];exact (congrArg (λr=>Result.andThen r _) hm).trans rfl
 ·cases G with
  |nil=>exact .tup .nil
  |cons e H =>
   cases H with
   |nil=>exact e
   |cons L j =>
    simp only[List.size_toArray,Iv];rw[dif_neg J];exact .tup (.cons e (.cons L j))
def ztn{fr:Frame}{j:List Frame}{w:World}{A:List Deferred}(hm:fr.mode=.returning)(hd:fr.defers={ target:=.collected g,args:=#[] }::A)(hw:w.heap[g]?=some (.deferred (some []))) :
  step z (lone fr j w)=.next (lone { fr with defers:=A } j (w.putObj g (.deferred none))) :=
 step_lone_go (by simp[stepG,unwind,hm,hd,Sem.runT_eq,run_takeDeferred hw,GStep.bare_after])
def zpb{T:Program}{E:World}{K:CM}:∀{R:List Nat} {G:List Deferred} {H B:Heap} {w:World} {fr:Frame} (g:List Frame),DR K R G→mj R H=some B→Rel E K H w→fr.mode=.returning→fr.defers=G →
  ∃C,Rel E K B C∧Steps T (lone fr g w) (lone { fr with defers:=[] } g C)
 |_,_,H,B,w,fr,g,.nil,h,j,hm,hd=>by
  cases h;refine⟨w,j,?_⟩;have:fr={ fr with defers:=[] }:=by cases fr;cases hd;rfl
  rw[←this];exact .refl _ _
 |_,_,H,B,w,fr,g,.cons (d:=d) (L:=S) (r:=r) D M,h,j,hm,hd=>by
  simp only[mj]at h;split at h
  ·rename_i O;obtain⟨I,hw⟩:=j.obj _ _ (j.fresh _ _ _ D) O S D;have F:Rel E K (H.put d (.defd false)) (w.putObj S.b (.deferred none)):=j.putBlock D I (λ_ _ _ _ e=>An) (λz U A=>by
    rw[D]at A;cases A;exact⟨I,z⟩)
   obtain⟨C,P,Q⟩:=zpb (fr:={ fr with defers:=r }) g M h F hm rfl;exact⟨C,P,.head (ztn hm hd hw) Q⟩
  ·cases h
def ER.start{gg:CM}{args:List AV}(C:VRs gg args vL){n:Nat}(hn:n≤M8)(hl:args.length≤n):ER n gg (O8 args 0 .e) (vL.toArray++Array.replicate (n-vL.toArray.size) undef):=by
 have hlen:=C.length;refine⟨Ab,hn,λt ht=>?_⟩;rw[get_ofList args 0 .e t,Uw];rw[I6];by_cases h:t<args.length
 ·rw[Ih ⟨K8 _,J⟩];obtain⟨a,v,q1,q2,q3⟩:=C.get' h;rw[Nat.sub_zero,q1];rw[Ju Ab];simp only[Ji,q2,Ka];exact q3
 ·rw[Ig J];show _=undef;rw[Mo Ab,Array.getElem?_replicate];split<;>rfl
def setPs_ok:∀(g:List Tmp) (args:List AV) (j:List Value) {n:Nat} {H A:Tr AV} {z:Array Value},xa g args n H=some A→VRs F args j→ER n F H z →
  g.length=j.length∧ER n F A ((g.zip j).foldl (λtmps (t,a)=>tmps.setIfInBounds t a) z):=by
 intro g
 induction g with
 |nil =>
  intro args j n H A z h B C;cases B with
  |nil=>cases h;exact⟨rfl,C⟩
  |cons e G=>cases h
 |cons p g I =>
  intro args j n H A z h B C;cases B with
  |nil=>cases h
  |cons e G =>
   simp only[xa]at h;split at h
   ·rename_i K;have D:p<n:=Ik K;have E:=ER.put (a:={ tmps:=z,defers:=[] }) C (d:=some p) (λt L=>by cases L;exact D) e;obtain⟨M,O⟩:=I _ _ h G E;exact⟨At,O⟩
   ·cases h
def zur{P:Program}(hm:P.follows .mixedOrders=true){k:Py}(hk:Y6 P k){f m:Nat}{w:World}{args:List AV}{v:AV}(hR:Rel C F B w)(hv:VRs F args vL)
  (h:(ou P f).run k m args B=.ok v U):km P C F w (.fn f) vL v U:=by
 unfold ou at h;split at h
 ·cases h
 ·rename_i fn S;split at h
  ·cases h
  ·rename_i A T;split at h
   ·rename_i H;dsimp only at h;split at h
    ·cases h
    ·rename_i I;have D:args.length≤fn.ntmps:=Ik I;split at h
     ·cases h
     ·rename_i x gB gC H1 K;intro E;let b:Frame:={ (default:Frame) with fn:=f,kind:=.normal,roundOf:=none };have z:Frame.enter P f vL.toArray .normal=b.atR { tmps:=vL.toArray++Array.replicate (fn.ntmps-vL.toArray.size) undef,defers:=[] } [.code A]:=by
       simp[Frame.enter,Frame.atR,S,T,b]
      obtain⟨C1,w1,a1,q1,M,V⟩:=ap hm f fn.ntmps A k hk m none C F (O8 args 0 .e) [] B { tmps:=vL.toArray++Array.replicate (fn.ntmps-vL.toArray.size) undef,defers:=[] } w b x gB gC H1
       ⟨hR,ER.start hv H D,.nil⟩ rfl trivial K [] E
      rw[←z]at V;have L:∀g,Steps P (lone (Frame.enter P f vL.toArray .normal) E w) (lone { b.atR a1 g with mode:=.returning } E w1) →
        (match mj gC H1 with
         |none=>RV.no
         |some O=>match (kc P fn.results.toList).run gB O with
          |some [v]=>.ok v O
          |some l=>.ok (.tup l) O
          |none=>.no)=.ok v U →
        ∃X Y v' Z,F.le X∧Rel C X U Y∧VR X v v'∧Steps P (lone (Frame.enter P f vL.toArray .normal) E w) (lone Z E Y)∧Z.fn=f∧Z.leaving P Y (.returned v'):=by
       intro g hs G;split at G
       ·cases G
       ·rename_i O gg;obtain⟨w2,Q,r2⟩:=zpb (fr:={ b.atR a1 g with mode:=.returning }) E M.defs gg M.rel rfl rfl;split at G
        ·rename_i v1 j;cases G;obtain⟨xv,s1,R⟩:=zig (fn:=fn) Q M.env j;exact⟨C1,w2,xv,_,q1,Q,R,Steps.trans hs r2,rfl,rfl,rfl,rfl,fn,S,s1⟩
        ·rename_i l gj j;cases G;obtain⟨xv,s1,R⟩:=zig (fn:=fn) Q M.env j;refine⟨C1,w2,xv,_,q1,Q,?_,Steps.trans hs r2,rfl,rfl,rfl,rfl,fn,S,s1⟩;rcases l with _|⟨u,_|⟨u2,l⟩⟩
         ·exact R
         ·exact absurd rfl (gj u)
         ·exact R
        ·cases G
      cases x with
      |exit id=>cases h
      |normal=>exact L [] (Steps.trans V (.one (stepR_end rfl))) h
      |ret =>
       obtain⟨k1,s⟩:=V;exact L (.code .ret::k1) (Steps.trans s (.one (stepR_ret rfl))) h
   ·cases h
def znm{P:Program}{l:Nat}{x:Ex}{v:AV}(h:zgh l x B=.ok v U){w:World}(D:Rel C F B w){O:Loc}(z:F l 0=some O) :
  ∃I K,(Instr.endRound O.b (match x with
   |.normal=>none
   |.ret=>some .ret
   |.exit id=>some (.exit id))).run P w=.ok K I∧Rel C F U I∧VR F v K:=by
 unfold zgh at h;split at h
 ·rename_i st L f n S R a b d Q;obtain⟨A,E,G,hd,hw,H⟩:=D.obj _ _ (D.fresh _ _ _ z) Q O z;split at h
  ·cases h;refine⟨_,_,run_endRound none hw,D.putBlock z A (λ_ _ _ _ e=>An) (λg M j=>?_),.bool true⟩;rw[z]at j;cases j;exact⟨A,E,G,hd,g,H⟩
  ·cases h;refine⟨_,_,run_endRound (some .ret) hw,D.putBlock z A (λ_ _ _ _ e=>An) (λg M j=>?_),.bool false⟩;rw[z]at j;cases j;exact⟨A,E,G,hd,g,H⟩
  ·rename_i id;cases h;refine⟨_,_,run_endRound (some (.exit id)) hw,D.putBlock z A (λ_ _ _ _ e=>An) (λg M j=>?_),.bool false⟩;rw[z]at j;cases j;exact⟨A,E,G,hd,g,H⟩
 ·cases h
def Z7{P:Program}{l:Nat}(h:zpu l B=some U){w:World}(A:Rel C F B w){H:Loc}(z:F l 0=some H) :
  ∃D,(Instr.beginRound H.b).run P w=.ok () D∧Rel C F U D:=by
 unfold zpu at h;split at h
 ·rename_i E f n R O a b d I;cases h;obtain⟨G,K,L,hd,hw,M⟩:=A.obj _ _ (A.fresh _ _ _ z) I H z;refine⟨_,run_beginRound hw rfl,A.putBlock z G (λ_ _ _ _ e=>An) (λg Q j=>?_)⟩;rw[z]at j;cases j;exact⟨G,K,L,hd,g,M⟩
 ·cases h
def zby{P:Program}(hm:P.follows .mixedOrders=true){gj:Py}(Z:Y6 P gj):∀m,Y6 P (Qr P gj m)
 |0=>λ_ _ _ _ _ _ _ _ _ _ _ h=>Ak
 |m+1=>by
  have K:=zby hm Z m;intro w0 gC gD w t gg A v H' B L h;unfold Qr at h;cases t with
  |fn f =>
   dsimp only at h;split at h
   ·rename_i v1 H1 ho;cases h;exact Z _ _ _ _ _ _ _ _ _ B L ho
   ·exact zur hm K B L h
  |yield l =>
   dsimp only at h;split at h
   ·rename_i f n gE C a b d hg;split at h
    ·cases h
    ·rename_i E1 M;split at h
     ·rename_i E2 H2 O;split at h
      ·cases h
      ·rename_i Q R;split at h
       ·cases h
       ·rename_i x E3 gF H3 S;split at h
        ·intro gB D c cs;obtain⟨hB,E,Ld,hd,hw,hE⟩:=B.obj _ _ (B.fresh _ _ _ D) hg gB D;obtain⟨F,T⟩:=setPs_ok _ _ _ M L hE;have U:=run_yield (P:=P) (args:=A.toArray) hw (by simpa using F.symm);dsimp only at U;have z:((C.zip A.toArray).foldl (λg (t,a)=>g.setIfInBounds t a) E)=((C.toList.zip A).foldl (λg (t,a)=>g.setIfInBounds t a) E):=by
          rw[←Array.foldl_toList,Array.toList_zip]
         rw[z]at U;let G:Frame:={ (default:Frame) with fn:=f,kind:=.normal,roundOf:=some gB.b };have H:RO gC (some l) G.roundOf:=⟨gB,D,rfl⟩;obtain⟨C1,w1,a1,I,V,q3⟩:=ap hm f n a (Qr P gj m) K m (some l) w0 gC E1 [] gD { tmps:=(C.toList.zip A).foldl (λg (t,a)=>g.setIfInBounds t a) E,defers:=[] } w G .normal E2 [] H2
          ⟨B,T,.nil⟩ rfl H O [.beginRound,.code b] (c::cs)
         obtain⟨w2,r1,r2⟩:=Z7 (P:=P) R V.rel (I.keep _ _ _ D);obtain⟨C2,w3,a3,s1,s2,X⟩:=ap hm f n b (Qr P gj m) K m (some l) w0 C1 E2 [] Q a1 w2 G x E3 [] H3 ⟨r2,V.env,V.defs⟩ rfl (H.mono I) S [] (c::cs);obtain⟨w4,xv,Y,t2,t3⟩:=znm (P:=P) h s2.rel (s1.keep _ _ _ (I.keep _ _ _ D));refine⟨C2,w4,xv,f,_,a,b,CM.le_trans I s1,t2,t3,U,?_⟩;have j:Frame.round gB.b f ((C.toList.zip A).foldl (λg (t,a)=>g.setIfInBounds t a) E) a b .normal=G.atR { tmps:=(C.toList.zip A).foldl (λg (t,a)=>g.setIfInBounds t a) E,defers:=[] } [.code a,.beginRound,.code b]:=by
          simp[Frame.round,Frame.atR,G]
         rw[j];refine Steps.trans q3 (.head (stepR_beginRound rfl r1) ?_);cases x with
         |normal=>exact Steps.trans X (.one (stepR_round_end rfl rfl Y))
         |ret =>
          obtain⟨k1,s⟩:=X;exact Steps.trans s (.one (stepR_round_ret rfl rfl Y))
         |exit id =>
          obtain⟨k1,e,s⟩:=X;exact Steps.trans s (.one (stepR_round_exit rfl rfl e Y))
        ·cases h
     ·cases h
   ·cases h
def Rel.start(w:World):Rel w ⟨λ_ _=>none,0⟩ ⟨.e,0⟩ w :=
 ⟨rfl,.refl _ _,λ_ _ _ h=>Ak,λ_ _ _ h=>Ak,λ_ _ _ _ _ _ h=>Ak,λ_ _ h=>absurd h (Mf _),λ_ _ _ _ _ h=>absurd h (Mf _)⟩
end
section
open Go.RowKit Go.ChangeShapes Go.WideShapes Go.ChangeAt
variable {H : Type} {enc : TypeId × Value → H} {P : Program}
def zrm{f:Func}{s:ChangeSpec}{j F:Bool}{W:World}{args:Array Value}{v:Value}{K gs:List (DataW H)}{g pa pv:List MemPlace}
  (R:DataW.Whole enc P f.params.toList s.vars L W args.toList K gs g)
  (D:∀(b:Nat) (G:Nat→Bool) (hd:Bool),DataW.TrodAll enc P C b G hd f.resultTypes.toList (v.resultList f.resultTypes.size) (s.fn H (K++gs)).results [])
  (z:∀G:Nat→Bool,(∀p∈g,G p.block=true)→DataW.TrodAll enc P C 0 G true f.params.toList args.toList (s.fn H (K++gs)).args pa)
  (A:∀G:Nat→Bool,(∀p∈g,G p.block=true)→DataW.TrodVars enc P C G s.vars (s.fn H (K++gs)).vars pv)
  (B:g=pa++pv) (T:Below W.heap.size W C)
  (S:∀(Y:Nat) (t:TypeId) (r:Value),f.resultTypes[Y]?=some t→(v.resultList f.resultTypes.size)[Y]?=some r→Value.okWide P C .any 0 t r) :
  s.post enc P f L vK j F W args v C:=by
 have M:=R.lt;obtain⟨_,_,_,_,_,U,V⟩:=id R;have O:∀p∈g,(λb=>decide (b<W.heap.size)) p.block=true:=λp E=>by simpa using M p E
 refine⟨K,gs,g,[],pa,pv,R,D _ _ _,z _ O,A _ O,World.keptBut_mono (λp E=>⟨E,.inr (Iy.1 (B ▸ E))⟩) (T.frame (·∈g)),λ_=>?_⟩;refine⟨S,_,_,([]++pa)++pv,⟨[]++pa,pv,trodAll_append (z _ (λ_ _=>rfl)) (D _ _ _),A _ (λ_ _=>rfl),rfl,λb I E=>?_,λX=>?_⟩,λp E _=>by rw[B];simpa using E⟩
 ·have Q:MemPlace.cell b I∈g:=by rw[B];simpa using E
  rw[T.frozen (p:=⟨b,I,none⟩) (M _ Q)];exact U b I Q
 ·have:=V X;rw[B]at this;simpa using this
end
def Py.le(k k':Py):Prop:=∀t a H v H',k t a H=.ok v H'→k' t a H=.ok v H'
def tv{n:Nat}{ops:Array Oper}{o:Oper}{k C:Py}(F:k.le C)(h:(P6 z n ops o).run k I B=.ok vV U):(P6 z n ops o).run C I B=.ok vV U:=by
 unfold P6 at h ⊢;cases D:P7 n o.dst with
 |none=>rw[D]at h;cases h
 |some p =>
  rw[D]at h;dsimp only at h ⊢;cases E:(Rf ops o).run I with
  |false=>rw[E]at h;exact h
  |true =>
   rw[E]at h;dsimp only at h ⊢;cases j:(Nq z o.op).run I B with
   |no=>rw[j]at h;cases h
   |val v G=>rw[j]at h;exact h
   |call t g =>
    rw[j]at h;dsimp only at h ⊢;cases A:k t g B with
    |no=>rw[A]at h;cases h
    |ok v G=>rw[A]at h;rw[F _ _ _ _ _ A];exact h
def vt{r:OE}{f:Tr AV→Heap→OE}(h:(OE.rec .no f r:OE)=.ok I B):∃g j,r=.ok g j∧f g j=.ok I B:=by
 cases r with
 |no=>cases h
 |ok g j=>exact⟨g,j,rfl,h⟩
def za9{F:Program}{n:Nat}{ops:Array Oper}{k z:Py}(A:k.le z):∀{l:List Oper} {B g:Tr AV} {C j:Heap},(bw F n ops l).run k B C=.ok g j→(bw F n ops l).run z B C=.ok g j
 |[],_,_,_,_,h=>h
 |o::l,B,g,C,j,h=>by
  simp only[bw]at h ⊢;obtain⟨G,H,D,E⟩:=vt h;rw[tv A D];exact za9 A E
def vd{M:Program}{n:Nat}{ops:Array Oper}{k I:Py}(j:k.le I):∀{l g:List DOp} {K B:Tr AV} {L C:Heap},(S8 M n ops l g).run k K L=.ok B C→(S8 M n ops l g).run I K L=.ok B C
 |[],_,_,_,_,_,h=>h
 |x::l,g,K,B,L,C,h=>by
  simp only[S8]at h ⊢;split at h
  ·rename_i D;obtain⟨E,F,z,A⟩:=vt h;dsimp only;rw[tv j z];exact vd j A
  ·rename_i D;obtain⟨E,F,z,A⟩:=vt h;dsimp only;rw[tv j z];exact vd j A
  ·rename_i D;obtain⟨E,F,z,A⟩:=vt h;obtain⟨G,H⟩:=z88 A;dsimp only;rw[tv j z];dsimp only;rw[G];exact vd j H
  ·rename_i D;obtain⟨E,F,z,A⟩:=vt h;obtain⟨G,H⟩:=z88 A;dsimp only;rw[tv j z];dsimp only;rw[G];exact vd j H
def zk4{n:Nat}{ops:Array Oper}{k g:Py}(j:k.le g)(h:(rz z n ops).run k I B=.ok vV U):(rz z n ops).run g I B=.ok vV U:=by
 unfold rz at h ⊢;dsimp only at h ⊢;split at h
 ·exact vd j h
 ·cases h
def zal{f G:Tr AV→List Nat→Heap→Res}(E:∀B C D x g j z,f B C D=.ok x g j z→G B C D=.ok x g j z):∀{m A:Nat},m≤A→∀{B C D x g j z},Xq f m B C D=.ok x g j z→Xq G A B C D=.ok x g j z
 |0,_,_,_,_,_,_,_,_,_,h=>Ak
 |m+1,0,hm,_,_,_,_,_,_,_,_=>J
 |m+1,A+1,hm,B,C,D,x,g,j,z,h=>by
  simp only[Xq]at h ⊢;split at h
  ·cases h
  ·rename_i y H I K F;rw[E _ _ _ _ _ _ _ F];dsimp only;split at h
   ·exact zal E J h
   ·exact h
def me{P:Program}{f n:Nat}{k O:Py}(I:k.le O){m:Nat}(hm:m≤g):∀(c:Code) {B:Tr AV} {C:List Nat} {D:Heap} {x:Ex} {j:Tr AV} {z:List Nat} {A:Heap},
  (O7 P f n c).run k m V B C D=.ok x j z A→(O7 P f n c).run O g V B C D=.ok x j z A:=by
 intro c
 induction c with
 |skip=>intro B C D x j z A h;exact h
 |region id ops draw =>
  intro B C D x j z A h;simp only[O7]at h ⊢;cases draw with
  |true =>
   dsimp only at h ⊢;split at h
   ·cases h
   ·rename_i K L E;rw[zk4 I E];exact h
  |false =>
   dsimp only at h ⊢;split at h
   ·cases h
   ·rename_i K L E;rw[za9 I E];exact h
 |seq a b F G =>
  intro B C D x j z A h;simp only[O7]at h ⊢;cases M:(O7 P f n a).run k m V B C D with
  |no=>rw[M]at h;cases h
  |ok y K Q L =>
   rw[M]at h;rw[F M];dsimp only at h ⊢;cases y with
   |normal=>exact G h
   |exit id=>exact h
   |ret=>exact h
 |cond c a b F G =>
  intro B C D x j z A h;simp only[O7]at h ⊢;split at h
  ·split at h
   ·exact F h
   ·exact G h
  ·cases h
 |block id c H =>
  intro B C D x j z A h;simp only[O7]at h ⊢;split at h
  ·cases h
  ·rename_i y K Q L E;rw[H E];exact h
 |loop c H =>
  intro B C D x j z A h;simp only[O7]at h ⊢;exact zal (λB C D x j z A h=>H h) hm h
 |rangeFunc T R a b _ _ =>
  intro B C D x j z A h;simp only[O7]at h ⊢;split at h
  ·cases h
  ·split at h
   ·cases h
   ·split at h
    ·split at h
     ·cases h
     ·rename_i v S E;rw[I _ _ _ _ _ E];exact h
    ·cases h
 |exit id=>intro B C D x j z A h;exact h
 |scope c H=>intro B C D x j z A h;exact H h
 |label l=>intro B C D x j z A h;exact h
 |ret=>intro B C D x j z A h;exact h
 |_=>intro B C D x j z A h;cases h
def zp3{P:Program}{f:Nat}{k A:Py}(G:k.le A){m:Nat}(hm:m≤g){v:AV}(h:(ou P f).run k m K B=.ok v U):(ou P f).run A g K B=.ok v U:=by
 unfold ou at h ⊢;cases C:P.funcs[f]? with
 |none=>rw[C]at h;cases h
 |some fn =>
  rw[C]at h;dsimp only at h ⊢;cases D:fn.body with
  |none=>rw[D]at h;cases h
  |some j =>
   rw[D]at h;dsimp only at h ⊢;by_cases E:fn.ntmps≤M8
   ·rw[Ih E]at h ⊢;dsimp only at h ⊢;cases F:Nat.ble K.length fn.ntmps with
    |false=>rw[F]at h;cases h
    |true =>
     rw[F]at h;dsimp only at h ⊢;cases z:(O7 P f fn.ntmps j).run k m none (O8 K 0 .e) [] B with
     |no=>rw[z]at h;cases h
     |ok x I L H=>rw[z]at h;rw[me G hm _ z];exact h
   ·rw[Ig E]at h;cases h
def am{P:Program}{O:Py}:∀{m g:Nat},m≤g→Py.le (Qr P O m) (Qr P O g)
 |0,_,_=>λt a K v E h=>Ak
 |m+1,0,h=>J
 |m+1,g+1,hm=>by
  have j:=am (P:=P) (O:=O) (J:m≤g);intro t a K v E h;unfold Qr at h ⊢;cases t with
  |fn f =>
   dsimp only at h ⊢;cases B:O (.fn f) a K with
   |no=>rw[B]at h;exact zp3 j J h
   |ok L M=>rw[B]at h;exact h
  |yield l =>
   dsimp only at h ⊢;split at h
   ·rename_i f n Q F R b d S;cases C:xa F.toList a n Q with
    |none=>rw[C]at h;cases h
    |some T =>
     rw[C]at h;dsimp only at h ⊢;split at h
     ·rename_i G H I;rw[me j J _ I];dsimp only;cases D:zpu l H with
      |none=>rw[D]at h;cases h
      |some z =>
       rw[D]at h;dsimp only at h ⊢;cases A:(O7 P f n b).run (Qr P O m) m (some l) G [] z with
       |no=>rw[A]at h;cases h
       |ok x U X V=>rw[A]at h;rw[me j J _ A];exact h
     ·cases h
   ·cases h
section
noncomputable section
abbrev Yh:=Nat→Option AV
def S9(E:Tr AV)(ρ:Yh):Prop:=∀t,t≤M8→Mz (M6 t) E=ρ t
inductive Ox where
 |t (i:Nat)
 |c (a:AV)
def Ox.ev(ρ:Yh):Ox→AV
 |.t i=>(ρ i).getD Qs
 |.c a=>a
def Nw:Operand→Option Ox
 |.tmp t=>if t≤M8 then some (.t t) else none
 |.const v=>(Uu v).map .c
 |.func f=>some (.c (.fn (.func f) [] []))
 |.global _=>none
def Sd{x:Operand}{r:Ox}(h:Nw x=some r){E:Tr AV}{ρ:Yh}(z:S9 E ρ):(M7 x).run E=some (r.ev ρ):=by
 cases x with
 |tmp t =>
  simp only[Nw]at h;split at h
  ·rename_i j;cases h;unfold M7;dsimp only;rw[If j];dsimp only;rw[z t j];simp only[Ox.ev];cases ρ t<;>rfl
  ·cases h
 |const v =>
  simp only[Nw]at h;cases g:Uu v with
  |none=>rw[g]at h;cases h
  |some a=>rw[g]at h;cases h;unfold M7;dsimp only;rw[g];rfl
 |global A=>cases h
 |func f=>cases h;rfl
def ay:List Operand→Option (List Ox)
 |[]=>some []
 |x::l=>match Nw x with
  |none=>none
  |some r=>match ay l with
   |none=>none
   |some g=>some (r::g)
def resOs_ok:∀{l:List Operand} {g:List Ox},ay l=some g→∀{E:Tr AV} {ρ:Yh},S9 E ρ→(opds l).run E=some (g.map (·.ev ρ))
 |[],g,h,E,ρ,j=>B5
 |x::l,g,h,E,ρ,j=>by
  simp only[ay]at h;cases z:Nw x with
  |none=>rw[z]at h;cases h
  |some r =>
   rw[z]at h;dsimp only at h;cases A:ay l with
   |none=>rw[A]at h;cases h
   |some B =>
    rw[A]at h;cases h;unfold opds;dsimp only;rw[Sd z j,resOs_ok A j];rfl
def bu:Option Operand→Option (Option Ox)
 |none=>some none
 |some x=>match Nw x with
  |none=>none
  |some r=>some (some r)
def Oy(ρ:Yh):Option Ox→Option (Option Nat)
 |none=>some none
 |some r=>match r.ev ρ with
  |.int _ (.ofNat n)=>some (some n)
  |_=>none
def lx{x:Option Operand}{r:Option Ox}(h:bu x=some r){E:Tr AV}{ρ:Yh}(j:S9 E ρ):(Pe x).run E=Oy ρ r:=by
 cases x with
 |none=>cases h;rfl
 |some x =>
  simp only[bu]at h;cases g:Nw x with
  |none=>rw[g]at h;cases h
  |some q =>
   rw[g]at h;cases h;unfold Pe Oy;dsimp only;rw[Sd g j];generalize q.ev ρ=a;split
   ·rename_i n e;cases e;rfl
   ·rename_i e;split
    ·rename_i k n;exact absurd rfl (e k n)
    ·rfl
inductive ROp where
 |move (x:Ox)
 |pick (c a b:Ox)
 |alloc (l:List AV)
 |box (x:Ox)
 |build (cs:List AV) (ps:List (Nat×Nat×Ox))
 |buildSl (size len:Nat) (cs:List AV) (ps:List (Nat×Nat×Ox))
 |load1 (x:Ox)
 |loadN (n:Nat) (x:Ox)
 |store (n:Nat) (x y:Ox)
 |nilChk (x:Ox)
 |bin (op:BinOp) (g:Bool) (t:TypeId) (x y:Ox)
 |un (op:UnOp) (x:Ox)
 |cvInt (k:IntKind) (x:Ox)
 |cvStr (x:Ox)
 |cvSame (x:Ox)
 |cvBytes (x:Ox)
 |mkIface (t:TypeId) (x:Ox)
 |mkFunc (f:Fn) (first cap:List Ox)
 |mkMap0
 |mkMap1 (x:Ox)
 |mkSl (size:Nat) (z:List AV) (l c:Ox)
 |slStr (x:Ox) (lo hi:Option Ox)
 |slSl (size:Nat) (x:Ox) (lo hi mx:Option Ox)
 |slArr (n size:Nat) (x:Ox) (lo hi mx:Option Ox)
 |fieldAddr (off:Nat) (x:Ox)
 |field (g:Bool) (n off:Nat) (x:Ox)
 |ixAddr (size:Nat) (x i:Ox)
 |ixAddrArr (len size:Nat) (x i:Ox)
 |ixStr (x i:Ox)
 |ixArr (g:Bool) (len size:Nat) (x i:Ox)
 |lookup (d:TypeDesc) (z:AV) (ok:Bool) (x i:Ox)
 |mapUpd (d:TypeDesc) (m k v:Ox)
 |range (x:Ox)
 |next (x:Ox)
 |assert (z:AV) (ok:Bool) (t:TypeId) (x:Ox)
 |extract (i:Nat) (x:Ox)
 |lenStr (x:Ox)
 |lenSl (x:Ox)
 |lenMap (x:Ox)
 |lenArr (n:Nat) (x:Ox)
 |cap (x:Ox)
 |maxi (mx:Bool) (l:List Ox)
 |appZ (size:Nat) (z:List AV) (s x:Ox)
 |appG (size:Nat) (s x:Ox)
 |copy (size:Nat) (d x:Ox)
 |clear (size:Nat) (z:List AV) (x:Ox)
 |delete (d:TypeDesc) (m k:Ox)
 |callV (f:Ox) (args:List Ox)
 |invoke (r:Ox) (name:String) (args:List Ox)
def mw(ρ:Yh)(cs:List AV):List (Nat×Nat×Ox)→Option (List AV)
 |[]=>some cs
 |(j,g,x)::z=>match (x.ev ρ).cells with
  |none=>none
  |some l=>match Nat.beq l.length g with
   |true=>match Nat.ble (Nat.add j g) cs.length with
    |true=>mw ρ (Sq cs j l) z
    |false=>none
   |false=>none
def N7(P:Program)(ρ:Yh)(j:Heap):ROp→OR
 |.move x=>.val (x.ev ρ) j
 |.pick c a b=>match c.ev ρ with
  |.bool true=>.val (a.ev ρ) j
  |.bool false=>.val (b.ev ρ) j
  |_=>.no
 |.alloc l=>Uq j l
 |.box x=>match (x.ev ρ).cells with
  |some l=>Uq j l
  |none=>.no
 |.build R S=>match mw ρ R S with
  |some l=>.val (.agg l) j
  |none=>.no
 |.buildSl g len R S=>match mw ρ R S with
  |some l=>match newObj j l with
   |some (o,C)=>.val (.sl o 0 0 len g (some len)) C
   |none=>.no
  |none=>.no
 |.load1 x=>match x.ev ρ with
  |.ptr o v i=>match Pg j o v i 1 with
   |some [c]=>.val c j
   |_=>.no
  |_=>.no
 |.loadN n x=>match x.ev ρ with
  |.ptr o v i=>match Pg j o v i n with
   |some l=>.val (.agg l) j
   |none=>.no
  |_=>.no
 |.store n x y=>match x.ev ρ with
  |.ptr o v i=>match (y.ev ρ).cells with
   |some l=>match Nat.beq l.length n with
    |true=>match T7 j o v i l with
     |some C=>.val Qs C
     |none=>.no
    |false=>.no
   |none=>.no
  |_=>.no
 |.nilChk x=>qn j (x.ev ρ)
 |.bin op U t x y=>ret1 j (Ou P op U t (x.ev ρ) (y.ev ρ))
 |.un op x=>ret1 j (unA op (x.ev ρ))
 |.cvInt k x=>match x.ev ρ with
  |.int _ n=>.val (.int k (Th k n)) j
  |_=>.no
 |.cvStr x=>match x.ev ρ with
  |.nilSl=>.val (.str 0 0) j
  |.sl o v i len 1 _=>match Pg j o v i len with
   |some l=>match Tz.bytesA l with
    |some n=>.val (.str len n) j
    |none=>.no
   |none=>.no
  |_=>.no
 |.cvSame x=>match x.ev ρ with
  |.str l n=>.val (.str l n) j
  |_=>.no
 |.cvBytes x=>match x.ev ρ with
  |.str len n=>match newObj j ((T3 len n).map λ(b:Nat)=>AV.int .u8 (Int.ofNat b)) with
   |some (o,C)=>.val (.sl o 0 0 len 1 none) C
   |none=>.no
  |_=>.no
 |.mkIface t x=>.val (.iface t (x.ev ρ)) j
 |.mkFunc f first cap=>.val (.fn f (first.map (·.ev ρ)) (cap.map (·.ev ρ))) j
 |.mkMap0=>Vh j
 |.mkMap1 x=>match x.ev ρ with
  |.int _ _=>Vh j
  |_=>.no
 |.mkSl g L l c=>match l.ev ρ,c.ev ρ with
  |.int .i64 (.ofNat l),.int .i64 (.ofNat c)=>match Nat.ble l c with
   |true=>match Nat.ble c 1048576 with
    |true=>match newObj j (Ry L c) with
     |some (o,C)=>.val (.sl o 0 0 l g (some c)) C
     |none=>.no
    |false=>.no
   |false=>.no
  |_,_=>.no
 |.slStr x B hi=>match x.ev ρ,Oy ρ B,Oy ρ hi with
  |.str len n,some B,some hi =>
   let l:=B.getD 0;let h:=hi.getD len
   match Nat.ble l h with
   |true=>match Nat.ble h len with
    |true=>.val (.str (Nat.sub h l) (Nat.mod (Nat.div n (Nat.pow 256 l)) (Nat.pow 256 (Nat.sub h l)))) j
    |false=>.no
   |false=>.no
  |_,_,_=>.no
 |.slSl g x B hi H=>match x.ev ρ,Oy ρ B,Oy ρ hi,Oy ρ H with
  |.sl o v i len A M,some B,some hi,some H=>ret1 j (Ts g B hi H o v i len A M)
  |.nilSl,some B,some hi,some none=>match Nat.beq (Nat.add (B.getD 0) (hi.getD 0)) 0 with
   |true=>.val .nilSl j
   |false=>.no
  |.emp,some B,some hi,some none=>match Nat.beq (Nat.add (B.getD 0) (hi.getD 0)) 0 with
   |true=>.val .emp j
   |false=>.no
  |_,_,_,_=>.no
 |.slArr n g x B hi H=>match x.ev ρ,Oy ρ B,Oy ρ hi,Oy ρ H with
  |.ptr o v i,some B,some hi,some H=>match j.get o with
   |some (.cells _ O T false)=>match Nat.beq v T with
    |true=>match Nat.ble (Nat.add i (Nat.mul n g)) O with
     |true=>ret1 j (Ts g B hi H o v i n g (some n))
     |false=>.no
    |false=>.no
   |_=>.no
  |_,_,_,_=>.no
 |.fieldAddr I x=>match x.ev ρ with
  |.ptr o v i=>.val (.ptr o v (Nat.add i I)) j
  |_=>.no
 |.field U n I x=>match x.ev ρ with
  |.agg l=>ret1 j (X2 U n l I)
  |_=>.no
 |.ixAddr g x i=>match x.ev ρ,i.ev ρ with
  |.sl o v i len A _,.int _ (.ofNat n)=>match Nat.blt n len with
   |true=>match Nat.beq A g with
    |true=>.val (.ptr o v (Nat.add i (Nat.mul n A))) j
    |false=>.no
   |false=>.no
  |_,_=>.no
 |.ixAddrArr len g x i=>match x.ev ρ,i.ev ρ with
  |.ptr o v i,.int _ (.ofNat n)=>match Nat.blt n len with
   |true=>.val (.ptr o v (Nat.add i (Nat.mul n g))) j
   |false=>.no
  |_,_=>.no
 |.ixStr x i=>match x.ev ρ,i.ev ρ with
  |.str len n,.int _ (.ofNat i)=>match Nat.blt i len with
   |true=>.val (.int .u8 (Int.ofNat (Nat.mod (Nat.div n (Nat.pow 256 i)) 256))) j
   |false=>.no
  |_,_=>.no
 |.ixArr U len g x i=>match x.ev ρ,i.ev ρ with
  |.agg l,.int _ (.ofNat n)=>match Nat.blt n len with
   |true=>ret1 j (X2 U g l (Nat.mul n g))
   |false=>.no
  |_,_=>.no
 |.lookup d L ok x i=>match xp j (x.ev ρ) with
  |none=>.no
  |some K=>match jy d (i.ev ρ) K with
   |some (some v)=>.val (if ok then .tup [v,.bool true] else v) j
   |some none=>.val (if ok then .tup [L,.bool false] else L) j
   |none=>.no
 |.mapUpd d m k v=>match m.ev ρ with
  |.map o=>match j.get o with
   |some (.map K z)=>match kr d (k.ev ρ) (v.ev ρ) z K with
    |some (D,true)=>.val Qs (j.put o (.map D (Nat.add z 1)))
    |some (D,false)=>.val Qs (j.put o (.map D z))
    |none=>.no
   |_=>.no
  |_=>.no
 |.range x=>match x.ev ρ with
  |.str len n=>.val (.ptr j.next 0 0) (j.push (.iter len n 0))
  |_=>.no
 |.next x=>match x.ev ρ with
  |.ptr o 0 0=>match j.get o with
   |some (.iter len n F)=>match Nat.blt F len with
    |true=>match Nat.blt (Nat.mod (Nat.div n (Nat.pow 256 F)) 256) 128 with
     |true=>.val (.tup [.bool true,.int .i64 (Int.ofNat F),.int .i32 (Int.ofNat (Nat.mod (Nat.div n (Nat.pow 256 F)) 256))]) (j.put o (.iter len n (Nat.add F 1)))
     |false=>.no
    |false=>.val (.tup [.bool false]) j
   |_=>.no
  |_=>.no
 |.assert L ok t x=>match x.ev ρ with
  |.nilIf=>if ok then .val (.tup [L,.bool false]) j else .no
  |.iface V v=>match Nat.beq V t with
   |true=>.val (if ok then .tup [v,.bool true] else v) j
   |false=>if ok then .val (.tup [L,.bool false]) j else .no
  |_=>.no
 |.extract i x=>match x.ev ρ with
  |.tup l=>ret1 j l[i]?
  |_=>.no
 |.lenStr x=>match x.ev ρ with
  |.str l _=>.val (.int .i64 (Int.ofNat l)) j
  |_=>.no
 |.lenSl x=>match x.ev ρ with
  |.sl _ _ _ len _ _=>.val (.int .i64 (Int.ofNat len)) j
  |.nilSl=>.val (.int .i64 0) j
  |.emp=>.val (.int .i64 0) j
  |_=>.no
 |.lenMap x=>match x.ev ρ with
  |.nilMap=>.val (.int .i64 0) j
  |.map o=>match j.get o with
   |some (.map K _)=>.val (.int .i64 (Int.ofNat K.length)) j
   |_=>.no
  |_=>.no
 |.lenArr n _=>.val (.int .i64 (Int.ofNat n)) j
 |.cap x=>match x.ev ρ with
  |.nilSl=>.val (.int .i64 0) j
  |.sl _ _ _ _ _ (some r)=>.val (.int .i64 (Int.ofNat r)) j
  |_=>.no
 |.maxi H l=>match (l.map (λ(x:Ox)=>x.ev ρ):List AV) with
  |.int k n::l=>ret1 j (Wa H (.int k n) l)
  |_=>.no
 |.appZ g L s x=>match x.ev ρ with
  |.int .i64 (.ofNat n)=>match Nat.ble n 1048576 with
   |true=>Uf j g (s.ev ρ) n (Ry L n)
   |false=>.no
  |_=>.no
 |.appG g s x=>match Xc j g (x.ev ρ) with
  |some (n,l)=>match Nat.ble n 1048576 with
   |true=>Uf j g (s.ev ρ) n l
   |false=>.no
  |none=>.no
 |.copy g d x=>match Xc j g (x.ev ρ) with
  |some (n,l)=>match d.ev ρ with
   |.nilSl=>.val (.int .i64 0) j
   |.emp=>.val (.int .i64 0) j
   |.sl o v i len A _=>match Nat.beq A g with
    |true=>match T7 j o v i (l.take (Nat.mul (Pb n len) g)) with
     |some C=>.val (.int .i64 (Int.ofNat (Pb n len))) C
     |none=>.no
    |false=>.no
   |_=>.no
  |none=>.no
 |.clear g L x=>match x.ev ρ with
  |.nilSl=>.val Qs j
  |.emp=>.val Qs j
  |.sl o v i len A _=>match Nat.beq A g with
   |true=>match T7 j o v i (Ry L len) with
    |some C=>.val Qs C
    |none=>.no
   |false=>.no
  |_=>.no
 |.delete d m k=>match m.ev ρ with
  |.map o=>match j.get o with
   |some (.map K z)=>match xj d (k.ev ρ) K with
    |some D=>.val Qs (j.put o (.map D z))
    |none=>.no
   |_=>.no
  |_=>.no
 |.callV f G=>x8 P j (f.ev ρ) (G.map (·.ev ρ))
 |.invoke r Q G=>match r.ev ρ with
  |.iface t v=>match yk P t Q with
   |some f=>match cq P f with
    |true=>.call (.fn f) (v::G.map (·.ev ρ))
    |false=>.no
   |none=>.no
  |_=>.no
def af(g:Nat→Option (Nat×Nat)):List (Nat×Operand)→Option (List (Nat×Nat×Ox))
 |[]=>some []
 |(i,x)::l=>match g i with
  |none=>none
  |some (o,s)=>match Nw x with
   |none=>none
   |some r=>match af g l with
    |none=>none
    |some q=>some ((o,s,r)::q)
def Ol(x:Operand)(f:Ox→ROp):Option ROp:=match Nw x with
 |none=>none
 |some r=>some (f r)
def Qq(x y:Operand)(f:Ox→Ox→ROp):Option ROp:=match Nw x with
 |none=>none
 |some r=>match Nw y with
  |none=>none
  |some q=>some (f r q)
def zev(g:Nat)(f:Nat→Ox→Option Ox→Option Ox→Option Ox→ROp)(x:Operand)(j hi z:Option Operand):Option ROp :=
 match Nw x,bu j,bu hi,bu z with
 |some r,some a,some b,some c=>some (f g r a b c)
 |_,_,_,_=>none
def zo9(P:Program)(c:Call):Option ROp :=
 match c.callee with
 |.builtin b=>match b with
  |.len=>match c.argTypes.toList,c.args.toList with
   |[t],[x]=>match P.underlying t with
    |some .string=>Ol x .lenStr
    |some (.slice _)=>Ol x .lenSl
    |some (.map _ _)=>Ol x .lenMap
    |some (.array n _)=>Ol x (.lenArr n)
    |_=>none
   |_,_=>none
  |.cap=>match c.argTypes.toList,c.args.toList with
   |[t],[x]=>match P.underlying t with
    |some (.slice _)=>Ol x .cap
    |_=>none
   |_,_=>none
  |.max=>match ay c.args.toList with
   |some l=>some (.maxi true l)
   |none=>none
  |.min=>match ay c.args.toList with
   |some l=>some (.maxi false l)
   |none=>none
  |.append=>match c.argTypes.toList,c.args.toList with
   |[st,B],[s,x]=>match P.underlying st,P.underlying B with
    |some (.slice g),some d=>match P.info? g,Rc P g with
     |some i,some C=>if 0<i.size∧i.bytes≤65536 then match d with
      |.int _=>Qq s x (.appZ i.size C)
      |.slice _=>Qq s x (.appG i.size)
      |.string=>Qq s x (.appG i.size)
      |_=>none
      else none
     |_,_=>none
    |_,_=>none
   |_,_=>none
  |.copy=>match c.argTypes.toList,c.args.toList with
   |[st,_],[d,x]=>match P.underlying st with
    |some (.slice g)=>match Oi P g with
     |none=>none
     |some j=>if 0<j then Qq d x (.copy j) else none
    |_=>none
   |_,_=>none
  |.clear=>match c.argTypes.toList,c.args.toList with
   |[st],[x]=>match P.underlying st with
    |some (.slice g)=>match Oi P g,Rc P g with
     |some j,some C=>if 0<j then Ol x (.clear j C) else none
     |_,_=>none
    |_=>none
   |_,_=>none
  |.delete=>match c.argTypes.toList,c.args.toList with
   |[mt,_],[m,k]=>match P.underlying mt with
    |some (.map A _)=>match Td P A with
     |some d=>Qq m k (.delete d)
     |none=>none
    |_=>none
   |_,_=>none
  |_=>none
 |.value f=>match Nw f,ay c.args.toList with
  |some D,some l=>some (.callV D l)
  |_,_=>none
 |.invoke r z=>match Nw r,ay c.args.toList with
  |some D,some l=>some (.invoke D z l)
  |_,_=>none
def Re(P:Program)(o:Op):Option ROp :=
 match o with
 |.move x |.assign x=>Ol x .move
 |.pick c a b=>match Nw c,Nw a,Nw b with
  |some c,some a,some b=>some (.pick c a b)
  |_,_,_=>none
 |.alloc t=>match Rc P t with
  |some l=>some (.alloc l)
  |none=>none
 |.box _ x=>Ol x .box
 |.build t A=>match Rc P t with
  |none=>none
  |some H=>match P.underlying t with
   |some (.struct z)=>match ur P z.toList with
    |none=>none
    |some pl=>match af (pl[·]?) A.toList with
     |none=>none
     |some C=>some (.build H C)
   |some (.array _ g)=>match Oi P g with
    |none=>none
    |some j=>match af (λi=>some (i*j,j)) A.toList with
     |none=>none
     |some C=>some (.build H C)
   |_=>none
 |.buildSlice t len A=>match P.underlying t with
  |some (.slice g)=>match Oi P g with
   |none=>none
   |some j=>match Rc P g with
    |none=>none
    |some F=>if len*j≤2^20∧0<j then
      match af (λi=>some (i*j,j)) A.toList with
      |none=>none
      |some C=>some (.buildSl j len (Ry F len) C)
     else none
  |_=>none
 |.load t a=>match Rh P t,Oi P t with
  |some true,some n=>Ol a (.loadN n)
  |some false,some _=>Ol a .load1
  |_,_=>none
 |.store t a x=>match Oi P t with
  |some n=>Qq a x (.store n)
  |none=>none
 |.nilCheck x=>Ol x .nilChk
 |.binOp op t x y _=>Qq x y (.bin op (Un x || Un y) t)
 |.unOp op _ x=>Ol x (.un op)
 |.convert s d x=>match P.underlying s,P.underlying d with
  |some _,some (.int k)=>Ol x (.cvInt k)
  |some (.slice e),some .string=>match P.underlying e with
   |some (.int .u8)=>Ol x .cvStr
   |_=>none
  |some _,some .string=>Ol x .cvSame
  |some _,some (.slice e)=>match P.underlying e,Oi P e with
   |some (.int .u8),some 1=>Ol x .cvBytes
   |_,_=>none
  |_,_=>none
 |.makeInterface t x=>match P.underlying t with
  |some (.interface _)=>none
  |some _=>Ol x (.mkIface t)
  |none=>none
 |.makeFunc f first cap=>match f with
  |.yield _=>none
  |f=>match ay first.toList,ay cap.toList with
   |some a,some b=>some (.mkFunc f a b)
   |_,_=>none
 |.makeMap t r=>match r with
  |none=>some .mkMap0
  |some x=>match P.underlying t with
   |some (.map _ _)=>Ol x .mkMap1
   |_=>none
 |.makeSlice t l c=>match P.underlying t with
  |some (.slice g)=>match P.info? g with
   |none=>none
   |some i=>match Rc P g with
    |none=>none
    |some F=>if 0<i.size∧i.bytes≤2^16 then Qq l c (.mkSl i.size F) else none
  |_=>none
 |.slice t x G hi D=>match P.underlying t with
  |some .string=>match D with
   |some _=>none
   |none=>match Nw x,bu G,bu hi with
    |some r,some a,some b=>some (.slStr r a b)
    |_,_,_=>none
  |some (.slice g)=>if D.isSome&&hi.isNone then none else match Oi P g with
   |none=>none
   |some j=>zev j .slSl x G hi D
  |some (.array n g)=>if D.isSome&&hi.isNone then none else match Oi P g with
   |none=>none
   |some j=>zev j (.slArr n) x G hi D
  |_=>none
 |.fieldAddr s x f=>match P.underlying s with
  |some (.struct z)=>match z[f]? with
   |none=>none
   |some fd=>match Oi P fd.type with
    |none=>none
    |some 0=>none
    |some _=>Ol x (.fieldAddr fd.offset)
  |_=>none
 |.field t x f=>match P.underlying t with
  |some (.struct z)=>match z[f]? with
   |none=>none
   |some fd=>match Rh P fd.type,Oi P fd.type with
    |some I,some n=>Ol x (.field I n fd.offset)
    |_,_=>none
  |_=>none
 |.indexAddr t x i=>match P.underlying t with
  |some (.slice g)=>match Oi P g with
   |none=>none
   |some j=>Qq x i (.ixAddr j)
  |some (.array len g)=>match Oi P g with
   |none=>none
   |some j=>Qq x i (.ixAddrArr len j)
  |_=>none
 |.index t x i=>match P.underlying t with
  |some .string=>Qq x i .ixStr
  |some (.array len g)=>match Rh P g,Oi P g with
   |some I,some j=>Qq x i (.ixArr I len j)
   |_,_=>none
  |_=>none
 |.lookup t x i ok=>match P.underlying t with
  |some (.map B g)=>match Td P B,mm P g with
   |some d,some F=>Qq x i (.lookup d F ok)
   |_,_=>none
  |_=>none
 |.mapUpdate t m k x |.insert t m k x=>match P.underlying t with
  |some (.map B _)=>match Td P B with
   |some d=>match Nw m,Nw k,Nw x with
    |some m,some k,some x=>some (.mapUpd d m k x)
    |_,_,_=>none
   |none=>none
  |_=>none
 |.range t x=>match P.underlying t with
  |some .string=>Ol x .range
  |_=>none
 |.next K s=>if s then Ol K .next else none
 |.typeAssert x _ t ok=>match P.underlying t with
  |some (.interface _)=>none
  |some _=>match mm P t with
   |none=>none
   |some F=>Ol x (.assert F ok t)
  |none=>none
 |.extract t i=>Ol t (.extract i)
 |.call c=>zo9 P c
 |_=>none
section ok
variable {P : Program} {E : Tr AV} {ρ : Yh}
def R7{x:Operand}{f:Ox→ROp}{r:ROp}(h:Ol x f=some r):∃q,Nw x=some q∧r=f q:=by
 unfold Ol at h;cases g:Nw x with
 |none=>rw[g]at h;cases h
 |some q=>rw[g]at h;cases h;exact⟨q,rfl,rfl⟩
def V1{x y:Operand}{f:Ox→Ox→ROp}{r:ROp}(h:Qq x y f=some r):∃q p,Nw x=some q∧Nw y=some p∧r=f q p:=by
 unfold Qq at h;cases g:Nw x with
 |none=>rw[g]at h;cases h
 |some q =>
  rw[g]at h;dsimp only at h;cases j:Nw y with
  |none=>rw[j]at h;cases h
  |some p=>rw[j]at h;cases h;exact⟨q,p,rfl,rfl,rfl⟩
def R8(g:S9 E ρ){x:Operand}{q:Ox}(j:Nw x=some q)(f:Heap→AV→OR)(z:Heap):(Pa x f).run E z=f z (q.ev ρ):=by
 show (Option.rec OR.no (λa=>f z a) ((M7 x).run E):OR)=_;rw[Sd j g]
def Vn(g:S9 E ρ){x y:Operand}{q p:Ox}(j:Nw x=some q)(z:Nw y=some p)(f:Heap→AV→AV→OR)(A:Heap):(Rs x y f).run E A=f A (q.ev ρ) (p.ev ρ):=by
 show (Option.rec OR.no (λa=>Option.rec OR.no (λb=>f A a b) ((M7 y).run E)) ((M7 x).run E):OR)=_;rw[Sd j g,Sd z g]
def w8(C:S9 E ρ){g:Nat→Option (Nat×Nat)}:∀{l:List (Nat×Operand)} {z:List (Nat×Nat×Ox)} {cs:List AV},af g l=some z→∃A,ae g l=some A∧Y5 cs A E=mw ρ cs z
 |[],z,cs,h=>by cases h;exact⟨[],rfl,rfl⟩
 |(i,x)::l,z,cs,h=>by
  simp only[af]at h;cases D:g i with
  |none=>rw[D]at h;cases h
  |some I =>
   obtain⟨o,s⟩:=I;rw[D]at h;dsimp only at h;cases F:Nw x with
   |none=>rw[F]at h;cases h
   |some r =>
    rw[F]at h;dsimp only at h;cases B:af g l with
    |none=>rw[B]at h;cases h
    |some q =>
     rw[B]at h;cases h;obtain⟨A,H,_⟩:=w8 C (cs:=cs) B;refine⟨⟨o,s,M7 x⟩::A,by simp only[ae,D,H],?_⟩;simp only[Y5,mw];rw[Sd F C];dsimp only;cases (r.ev ρ).cells with
     |none=>rfl
     |some c =>
      dsimp only;cases Nat.beq c.length s with
      |false=>rfl
      |true =>
       dsimp only;cases Nat.ble (Nat.add o s) cs.length with
       |false=>rfl
       |true =>
        dsimp only;obtain⟨K,j,G⟩:=w8 C (cs:=Sq cs o c) B;rw[H]at j;cases j;exact G
def zgt{f:Nat→Ox→Option Ox→Option Ox→Option Ox→ROp}{x:Operand}{j hi z:Option Operand}{r:ROp}(h:zev g f x j hi z=some r) :
  ∃q a b c,Nw x=some q∧bu j=some a∧bu hi=some b∧bu z=some c∧r=f g q a b c:=by
 unfold zev at h;split at h
 ·rename_i q a b c A B C D;cases h;exact⟨q,a,b,c,A,B,C,D,rfl⟩
 ·cases h
def zqv(j:S9 E ρ){c:Call}{r:ROp}(h:zo9 P c=some r)(X:Heap):(Zv P c).run E X=N7 P ρ X r:=by
 unfold zo9 at h;unfold Zv;split at h
 ·rename_i b T;rw[T];dsimp only;split at h
  ·split at h
   ·rename_i t x A z;rw[A,z];dsimp only;unfold Tg;split at h<;>first
     |(cases h;done)
     | (rename_i hu
        obtain⟨q,g,rfl⟩:=R7 h;rw[hu];dsimp only;rw[R8 j g];rfl)
   ·cases h
  ·split at h
   ·rename_i t x A z;rw[A,z];dsimp only;unfold Up;split at h
    ·rename_i hu;obtain⟨q,g,rfl⟩:=R7 h;rw[hu];dsimp only;rw[R8 j g];rfl
    ·cases h
   ·cases h
  ·split at h
   ·rename_i l F;cases h;simp only[Sc,N7];rw[resOs_ok F j];generalize (l.map λ(x:Ox)=>x.ev ρ)=G;rcases G with _|⟨v,G⟩
    ·rfl
    ·cases v<;>rfl
   ·cases h
  ·split at h
   ·rename_i l F;cases h;simp only[Sc,N7];rw[resOs_ok F j];generalize (l.map λ(x:Ox)=>x.ev ρ)=G;rcases G with _|⟨v,G⟩
    ·rfl
    ·cases v<;>rfl
   ·cases h
  ·split at h
   ·rename_i st S s x A z;unfold wx;rw[A,z];dsimp only;split at h
    ·rename_i D d L M;rw[L,M];split at h
     ·rename_i i Z hi H;split at h
      ·rename_i O;split at h
       ·rename_i k;obtain⟨q,p,g,C,rfl⟩:=V1 h;dsimp only;unfold zja;rw[hi,H];dsimp only;rw[Ih O,Vn j g C];rfl
       ·obtain⟨q,p,g,C,rfl⟩:=V1 h;dsimp only;unfold jt;rw[hi,H];dsimp only;rw[Ih O,Vn j g C];rfl
       ·obtain⟨q,p,g,C,rfl⟩:=V1 h;dsimp only;unfold jt;rw[hi,H];dsimp only;rw[Ih O,Vn j g C];rfl
       ·cases h
      ·cases h
     ·cases h
    ·cases h
   ·cases h
  ·split at h
   ·rename_i st S d x A z;unfold ze;rw[A,z];dsimp only;split at h
    ·rename_i D hu;rw[hu];dsimp only;split at h
     ·cases h
     ·rename_i I Q;split at h
      ·rename_i B;obtain⟨q,p,g,C,rfl⟩:=V1 h;rw[Q];dsimp only;rw[Ih B,Vn j g C];rfl
      ·cases h
    ·cases h
   ·cases h
  ·split at h
   ·rename_i st x A z;unfold zm;rw[A,z];dsimp only;split at h
    ·rename_i D hu;rw[hu];dsimp only;split at h
     ·rename_i I Z Q H;split at h
      ·rename_i B;obtain⟨q,g,rfl⟩:=R7 h;rw[Q,H];dsimp only;rw[Ih B,R8 j g];rfl
      ·cases h
     ·cases h
    ·cases h
   ·cases h
  ·split at h
   ·rename_i mt S m k A z;unfold xu;rw[A,z];dsimp only;split at h
    ·rename_i U e hu;rw[hu];dsimp only;split at h
     ·rename_i d hd;obtain⟨q,p,g,C,rfl⟩:=V1 h;rw[hd];dsimp only;rw[Vn j g C];rfl
     ·cases h
    ·cases h
   ·cases h
  ·cases h
 ·rename_i f V;rw[V];dsimp only;split at h
  ·rename_i Y l R F;cases h;rw[Sd R j,resOs_ok F j];simp only[N7]
  ·cases h
 ·rename_i x K z;rw[z];dsimp only;split at h
  ·rename_i Y l R F;cases h;rw[Sd R j,resOs_ok F j];simp only[N7];cases Y.ev ρ with
   |iface t v =>
    dsimp only;cases yk P t K with
    |none=>rfl
    |some f =>
     dsimp only;cases cq P f<;>rfl
   |_=>rfl
  ·cases h
end ok
end
end
section
section ok
variable {P : Program} {E : Tr AV} {ρ : Yh}
def zqm(z:S9 E ρ){o:Op}{r:ROp}(h:Re P o=some r)(R:Heap):(Nq P o).run E R=N7 P ρ R r:=by
 cases o with
 |move x =>
  obtain⟨q,g,rfl⟩:=R7 h;show (Pa x _).run E R=_;rw[R8 z g];rfl
 |assign x =>
  obtain⟨q,g,rfl⟩:=R7 h;show (Pa x _).run E R=_;rw[R8 z g];rfl
 |pick c a b =>
  simp only[Re]at h;split at h
  ·rename_i M O S g A D;cases h;simp only[Nq];rw[Sd g z,Sd A z,Sd D z];simp only[N7];generalize M.ev ρ=v;cases v with
   |bool t=>cases t<;>rfl
   |_=>rfl
  ·cases h
 |alloc t =>
  simp only[Re]at h;simp only[Nq];cases H:Rc P t with
  |none=>rw[H]at h;cases h
  |some l=>rw[H]at h;cases h;rfl
 |box t x =>
  obtain⟨q,g,rfl⟩:=R7 h;show (Pa x _).run E R=_;rw[R8 z g];rfl
 |build t G =>
  simp only[Re]at h;simp only[Nq,rh];cases H:Rc P t with
  |none=>rw[H]at h;cases h
  |some Y =>
   rw[H]at h;dsimp only at h ⊢;split at h
   ·rename_i C hu;rw[hu];dsimp only;cases K:ur P C.toList with
    |none=>rw[K]at h;cases h
    |some pl =>
     rw[K]at h;dsimp only at h ⊢;cases I:af (pl[·]?) G.toList with
     |none=>rw[I]at h;cases h
     |some Z =>
      rw[I]at h;cases h;obtain⟨qs,g,A⟩:=w8 z (cs:=Y) I;rw[g];dsimp only;rw[A];rfl
   ·rename_i n j hu;rw[hu];dsimp only;cases F:Oi P j with
    |none=>rw[F]at h;cases h
    |some B =>
     rw[F]at h;dsimp only at h ⊢;cases I:af (λi=>some (i*B,B)) G.toList with
     |none=>rw[I]at h;cases h
     |some Z =>
      rw[I]at h;cases h;obtain⟨qs,g,A⟩:=w8 z (cs:=Y) I;rw[g];dsimp only;rw[A];rfl
   ·cases h
 |buildSlice t len G =>
  simp only[Re]at h;simp only[Nq,jf];split at h
  ·rename_i j hu;rw[hu];dsimp only;cases F:Oi P j with
   |none=>rw[F]at h;cases h
   |some B =>
    rw[F]at h;dsimp only at h ⊢;cases H:Rc P j with
    |none=>rw[H]at h;cases h
    |some X =>
     rw[H]at h;dsimp only at h ⊢;split at h
     ·rename_i L;rw[Ih L];cases I:af (λi=>some (i*B,B)) G.toList with
      |none=>rw[I]at h;cases h
      |some Z =>
       rw[I]at h;cases h;obtain⟨qs,g,A⟩:=w8 z (cs:=Ry X len) I;rw[g];dsimp only;rw[A];rfl
     ·cases h
  ·cases h
 |load t a =>
  simp only[Re]at h;simp only[Nq,oo];split at h
  ·rename_i n g A;obtain⟨q,D,rfl⟩:=R7 h;rw[g,A];dsimp only;rw[R8 z D];rfl
  ·rename_i n g A;obtain⟨q,D,rfl⟩:=R7 h;rw[g,A];dsimp only;rw[R8 z D];rfl
  ·cases h
 |store t a x =>
  simp only[Re]at h;simp only[Nq,we];cases F:Oi P t with
  |none=>rw[F]at h;cases h
  |some n =>
   rw[F]at h;obtain⟨q,p,g,A,rfl⟩:=V1 h;dsimp only;rw[Vn z g A];rfl
 |nilCheck x =>
  obtain⟨q,g,rfl⟩:=R7 h;show (Pa x _).run E R=_;rw[R8 z g];rfl
 |binOp op t x y yt =>
  obtain⟨q,p,g,A,rfl⟩:=V1 h;simp only[Nq];rw[Vn z g A];rfl
 |unOp op t x =>
  obtain⟨q,g,rfl⟩:=R7 h;show (Pa x _).run E R=_;rw[R8 z g];rfl
 |convert s d x =>
  simp only[Re]at h;simp only[Nq];unfold Tz;split at h
  ·rename_i T k g A;obtain⟨q,D,rfl⟩:=R7 h;rw[g,A];dsimp only;rw[R8 z D];rfl
  ·rename_i e g A;rw[g,A];dsimp only;split at h
   ·rename_i hu;rw[hu];dsimp only;obtain⟨q,D,rfl⟩:=R7 h;rw[R8 z D];rfl
   ·cases h
  ·rename_i T U g A;obtain⟨q,D,rfl⟩:=R7 h;rw[g,A];cases T with
   |slice e=>exact absurd rfl (U e)
   |_=>dsimp only;rw[R8 z D];rfl
  ·rename_i T e g A;rw[g,A];dsimp only;split at h
   ·rename_i k1 k2;obtain⟨q,D,rfl⟩:=R7 h;rw[k1,k2];exact (R8 z D _ _).trans rfl
   ·cases h
  ·cases h
 |makeInterface t x =>
  simp only[Re]at h;simp only[Nq,qc];cases hu:P.underlying t with
  |none=>rw[hu]at h;cases h
  |some d =>
   rw[hu]at h;cases d with
   |interface ms=>cases h
   |_=>obtain⟨q,g,rfl⟩:=R7 h;dsimp only;rw[R8 z g];rfl
 |makeFunc f first cap =>
  simp only[Re]at h;cases f with
  |yield l=>cases h
  |_ =>
   dsimp only at h;split at h
   ·rename_i a b g A;cases h;simp only[Nq,oj];rw[resOs_ok g z,resOs_ok A z];rfl
   ·cases h
 |makeMap t r =>
  simp only[Re]at h;simp only[Nq,jv];cases r with
  |none=>cases h;rfl
  |some x =>
   dsimp only at h ⊢;split at h
   ·rename_i k e hu;obtain⟨q,g,rfl⟩:=R7 h;rw[hu];dsimp only;rw[R8 z g];rfl
   ·cases h
 |makeSlice t l c =>
  simp only[Re]at h;simp only[Nq,jx];split at h
  ·rename_i j hu;rw[hu];dsimp only;cases hi:P.info? j with
   |none=>rw[hi]at h;cases h
   |some i =>
    rw[hi]at h;dsimp only at h ⊢;cases H:Rc P j with
    |none=>rw[H]at h;cases h
    |some X =>
     rw[H]at h;dsimp only at h ⊢;split at h
     ·rename_i L;obtain⟨q,p,g,A,rfl⟩:=V1 h;rw[Ih L,Vn z g A];rfl
     ·cases h
  ·cases h
 |slice t x lo hi mx =>
  simp only[Re]at h;simp only[Nq,ep];split at h
  ·rename_i hu;rw[hu];dsimp only;cases mx with
   |some m=>cases h
   |none =>
    dsimp only at h ⊢;split at h
    ·rename_i q a b g A D;cases h;rw[Sd g z,lx A z,lx D z];simp only[N7];cases q.ev ρ with
     |str len n =>
      cases Oy ρ a with
      |none=>rfl
      |some O=>cases Oy ρ b<;>rfl
     |_=>rfl
    ·cases h
  ·rename_i j hu;rw[hu];dsimp only;split at h
   ·cases h
   ·rename_i L;rw[Ig L];cases F:Oi P j with
    |none=>rw[F]at h;cases h
    |some B =>
     rw[F]at h;obtain⟨q,a,b,c,g,A,D,V,rfl⟩:=zgt h;dsimp only;rw[Sd g z,lx A z,lx D z,lx V z];simp only[N7];generalize q.ev ρ=v;generalize Oy ρ a=O;generalize Oy ρ b=S;generalize Oy ρ c=M;cases v<;>cases O<;>cases S<;>cases M<;>try rfl
     all_goals (rename_i X;cases X<;>rfl)
  ·rename_i n j hu;rw[hu];dsimp only;split at h
   ·cases h
   ·rename_i L;rw[Ig L];cases F:Oi P j with
    |none=>rw[F]at h;cases h
    |some B =>
     rw[F]at h;obtain⟨q,a,b,c,g,A,D,V,rfl⟩:=zgt h;dsimp only;rw[Sd g z,lx A z,lx D z,lx V z];simp only[N7];generalize q.ev ρ=v;generalize Oy ρ a=O;generalize Oy ρ b=S;generalize Oy ρ c=M;cases v<;>cases O<;>cases S<;>cases M<;>rfl
  ·cases h
 |fieldAddr s x f =>
  simp only[Re]at h;simp only[Nq,qf];split at h
  ·rename_i C hu;rw[hu];dsimp only;cases K:C[f]? with
   |none=>rw[K]at h;cases h
   |some fd =>
    rw[K]at h;dsimp only at h ⊢;split at h
    ·cases h
    ·cases h
    ·rename_i n hn F;obtain⟨q,g,rfl⟩:=R7 h;rw[F];cases n with
     |zero=>exact absurd rfl hn
     |succ n=>exact (R8 z g _ _).trans rfl
  ·cases h
 |field t x f =>
  simp only[Re]at h;simp only[Nq,sd];split at h
  ·rename_i C hu;rw[hu];dsimp only;cases K:C[f]? with
   |none=>rw[K]at h;cases h
   |some fd =>
    rw[K]at h;dsimp only at h ⊢;split at h
    ·rename_i gg n g A;obtain⟨q,D,rfl⟩:=R7 h;rw[g,A];dsimp only;rw[R8 z D];rfl
    ·cases h
  ·cases h
 |indexAddr t x i =>
  simp only[Re]at h;simp only[Nq,rf];split at h
  ·rename_i j hu;rw[hu];dsimp only;cases F:Oi P j with
   |none=>rw[F]at h;cases h
   |some B =>
    rw[F]at h;obtain⟨q,p,g,A,rfl⟩:=V1 h;dsimp only;rw[Vn z g A];rfl
  ·rename_i len j hu;rw[hu];dsimp only;cases F:Oi P j with
   |none=>rw[F]at h;cases h
   |some B =>
    rw[F]at h;obtain⟨q,p,g,A,rfl⟩:=V1 h;dsimp only;rw[Vn z g A];rfl
  ·cases h
 |index t x i =>
  simp only[Re]at h;simp only[Nq,qz];split at h
  ·rename_i hu;obtain⟨q,p,g,A,rfl⟩:=V1 h;rw[hu];dsimp only;rw[Vn z g A];rfl
  ·rename_i len j hu;rw[hu];dsimp only;split at h
   ·rename_i gg B hg F;obtain⟨q,p,g,A,rfl⟩:=V1 h;rw[hg,F];dsimp only;rw[Vn z g A];rfl
   ·cases h
  ·cases h
 |lookup t x i ok =>
  simp only[Re]at h;simp only[Nq,m6];split at h
  ·rename_i Q j hu;rw[hu];dsimp only;split at h
   ·rename_i d X hd H;obtain⟨q,p,g,A,rfl⟩:=V1 h;rw[hd,H];dsimp only;rw[Vn z g A];rfl
   ·cases h
  ·cases h
 |mapUpdate t m k x =>
  simp only[Re]at h;simp only[Nq,pn];split at h
  ·rename_i Q j hu;rw[hu];dsimp only;split at h
   ·rename_i d hd;rw[hd];dsimp only;split at h
    ·rename_i a b c g A D;cases h;rw[Sd g z,Sd A z,Sd D z];simp only[N7];cases a.ev ρ<;>rfl
    ·cases h
   ·cases h
  ·cases h
 |insert t m k x =>
  simp only[Re]at h;simp only[Nq,pn];split at h
  ·rename_i Q j hu;rw[hu];dsimp only;split at h
   ·rename_i d hd;rw[hd];dsimp only;split at h
    ·rename_i a b c g A D;cases h;rw[Sd g z,Sd A z,Sd D z];simp only[N7];cases a.ev ρ<;>rfl
    ·cases h
   ·cases h
  ·cases h
 |range t x =>
  simp only[Re]at h;simp only[Nq,rangeF];split at h
  ·rename_i hu;obtain⟨q,g,rfl⟩:=R7 h;rw[hu];dsimp only;rw[R8 z g];rfl
  ·cases h
 |next it s =>
  simp only[Re]at h;simp only[Nq,ye];cases s with
  |false=>cases h
  |true =>
   obtain⟨q,g,rfl⟩:=R7 h;rw[Ih rfl,R8 z g];rfl
 |typeAssert x xt t ok =>
  simp only[Re]at h;simp only[Nq,rj];cases hu:P.underlying t with
  |none=>rw[hu]at h;cases h
  |some d =>
   rw[hu]at h;cases d with
   |interface ms=>cases h
   |_ =>
    dsimp only at h ⊢;cases H:mm P t with
    |none=>rw[H]at h;cases h
    |some X=>rw[H]at h;obtain⟨q,g,rfl⟩:=R7 h;dsimp only;rw[R8 z g];rfl
 |extract t i =>
  obtain⟨q,g,rfl⟩:=R7 h;show (Pa t _).run E R=_;rw[R8 z g];rfl
 |call c=>exact zqv z h R
 |_=>cases h
end ok
end
section
noncomputable section
open Go.RowKit (Below)
def vp(g:Program)(f:Nat):Bool:=match g.funcs[f]? with
 |some fn=>match fn.params.toList with
  |[]=>match fn.resultTypes.toList with
   |[t]=>match g.underlying t with
    |some .bool=>true
    |_=>false
   |_=>false
  |_::_=>false
 |none=>false
def zad(A:Program)(f:Nat):Prop :=
 ∀(w:World) z,∃g j,Below w.heap.size w g∧Steps A (lone (Frame.enter A f #[] .normal) z w) (lone j z g)∧j.fn=f∧j.leaving A g (.returned (.bool true))
def zqu(hm:z.follows .mixedOrders=true){m f:Nat}(h:sh z noO m f=true):zad z f:=by
 intro w g;unfold sh at h;split at h
 ·rename_i H j;obtain⟨I,A,K,B,L,C,D,E,F,G⟩:=zby hm (zv2 z) m w _ _ w (.fn f) [] [] _ _ (Rel.start w) .nil j g;cases D;exact⟨A,B,C.low,E,F,G⟩
 ·cases h
def Rel.below{gj:CM}{H:Heap}{w w':World}(h:Rel C gj H w)(hb:Below w.heap.size w w'):Rel C gj H w':=by
 have gg:C.heap.size≤w.heap.size:=h.low.size;exact⟨h.nx,h.low.trans (hb.mono gg),h.fresh,λo v L hL=>Ix (h.lt o v L hL) hb.size,h.excl,
  λo ob ho hg=>(h.obj o ob ho hg).frame (CM.le_refl gj) (λ_ _ hL=>hL) (λv L hL=>hb.block _ (h.lt o v L hL)),h.top⟩
def Qf(g:Program)(f:Nat):Nat:=match vp g f with
 |true=>0
 |false=>match g.funcs[f]? with
  | some fn => match fn.origin == "slices.Insert" with
   |true=>1
   | false => match fn.origin == "slices.Delete" with
    |true=>2
    |false=>0
  |none=>0
def R5(g:Program)(f:Nat):Nat:=match g.funcs[f]? with
 |some fn=>match fn.targs[1]? with
  |some t=>match Oi g t with
   |some j=>j
   |none=>0
  |none=>0
 |none=>0
def rowTo(j:Heap)(o v len esz:Nat)(l:List AV):RV:=match j.get o with
 |some (.cells _ _ g false)=>match Nat.beq v g with
  |true=>.ok (.sl o (Nat.add g 1) 0 len esz none) (j.put o (.cells (O8 l 0 .e) l.length (Nat.add g 1) false))
  |false=>.no
 |_=>.no
def Uk(j:Nat)(E:Heap):List AV→RV
 |[.nilSl,.int .i64 (.ofNat i),.sl z A B C g _]=>match Nat.beq i 0&&(Nat.beq C 1&&(Nat.beq g j&&Nat.ble 1 j)) with
  |true=>match Pg E z A B j with
   |some x=>.ok (.sl E.next 0 0 1 j none) (E.push (.cells (O8 x 0 .e) x.length 0 false))
   |none=>.no
  |false=>.no
 |[.sl o v F len D _,.int .i64 (.ofNat i),.sl z A B C g _]=>match !(Nat.beq o z)&&(Nat.beq F 0&&(Nat.beq C 1&&(Nat.beq g j&&(Nat.beq D j&&(Nat.ble i len&&(Nat.ble 1 j&&Nat.ble len M8)))))) with
  |true=>match Pg E o v 0 (Nat.mul len j) with
   |some l=>match Pg E z A B j with
    |some x=>rowTo E o v (Nat.add len 1) j (l.take (Nat.mul i j)++x++l.drop (Nat.mul i j))
    |none=>.no
   |none=>.no
  |false=>.no
 |_=>.no
def Z2(z:Nat)(A:Heap):List AV→RV
 |[.sl o v B len g _,.int .i64 (.ofNat i),.int .i64 (.ofNat j)]=>match Nat.beq B 0&&(Nat.beq j (Nat.add i 1)&&(Nat.beq g z&&(Nat.ble j len&&(Nat.ble 1 z&&Nat.ble len M8)))) with
  |true=>match Pg A o v 0 (Nat.mul len z) with
   |some l=>rowTo A o v (Nat.sub len 1) z (l.take (Nat.mul i z)++l.drop (Nat.mul j z))
   |none=>.no
  |false=>.no
 |_=>.no
def Sl(k j:Nat)(z:Heap)(g:List AV):RV:=match k with
 |1=>Uk j z g
 |2=>Z2 j z g
 |_=>.no
def iy(B:Program)(f:Nat):Prop:=∀j C D w g z v A,Rel j C D w→VRs C g z→Sl (Qf B f) (R5 B f) D g=.ok v A→km B j C w (.fn f) z v A
def zsj(g:Program)(f:Nat):Bool:=vp g f || !(Nat.beq (Qf g f) 0)
def zv9{f:Nat}(h:vp z f=true):Qf z f=0:=by unfold Qf;rw[h]
open Classical in
def OL(P:Program):Py:=λt args H=>match t with
 |.fn f=>if Qf P f=0 then (match args with
   |[]=>if vp P f=true∧zad P f then .ok (.bool true) H else .no
   |_=>.no) else if iy P f then Sl (Qf P f) (R5 P f) H args else .no
 |_=>.no
def xd{f:Nat}(h:zsj z f=false)(g:List AV)(A:Heap):OL z (.fn f) g A=.no:=by
 unfold zsj at h;simp only[Bool.or_eq_false_iff,Bool.not_eq_false']at h;have j:=Ic h.2;unfold OL;dsimp only;rw[Ih j];split
 ·rw[Ig (by rw[h.1];simp)]
 ·rfl
def ow{f:Nat}(h:vp z f=true)(g:zad z f)(j:Heap):OL z (.fn f) [] j=.ok (.bool true) j:=by
 unfold OL;dsimp only;rw[Ih (zv9 h)];exact Ih ⟨h,g⟩
def sg{f:Nat}(h:Qf z f≠0)(j:iy z f)(A:Heap)(g:List AV):OL z (.fn f) g A=Sl (Qf z f) (R5 z f) A g:=by
 unfold OL;dsimp only;rw[Ig h,Ih j]
def Y2(L:Program):Y6 L (OL L):=by
 intro O M R w t j P v Q z A g;unfold OL at g;split at g
 ·rename_i f;split at g
  ·split at g
   ·split at g
    ·rename_i B;cases g;cases A;intro C;obtain⟨D,E,F,G,H,I⟩:=B.2 w C;exact⟨M,D,.bool true,E,CM.le_refl M,z.below F,.bool true,G,H,I⟩
    ·cases g
   ·cases g
  ·split at g
   ·rename_i K;exact K _ _ _ _ _ _ _ _ z A g
   ·cases g
 ·cases g
end
end
noncomputable section
inductive LV where
 |any
 |bool (b:Bool)
 |u (x:UInt64)
 |b (x:UInt8)
 |i (n:Int)
 |int (k:IntKind) (n:Int)
 |str (l:List UInt8)
 |nilPtr
 |ptr (p i:Nat)
 |dptr (p k i:Nat)
 |cptr (l:List LV) (i:Nat)
 |nilSl
 |dy (p k:Nat)
 |vw (p k lo len:Nat)
 |vf (p k len:Nat)
 |lst (l:List LV) (len esz:Nat)
 |nilMap
 |map (p:Nat)
 |nilFn
 |fn (f:Fn) (first cap:List LV)
 |nilIf
 |iface (t:TypeId) (v:LV)
 |agg (l:List LV)
 |tup (l:List LV)
 deriving Inhabited
abbrev My:=List (Nat×LV)
def lk0:My→Nat→LV
 |[],_=>.any
 |(d,v)::l,t=>if t=d then v else lk0 l t
def zv3(f:v9):∃g:v9,g=f:=⟨f,rfl⟩
def Pd(f:v9):v9:=Classical.choose (zv3 f)
def Ss(f:v9):Pd f=f:=Classical.choose_spec (zv3 f)
def lk:My→Nat→LV:=Pd lk0
def Zg(t:Nat):lk [] t=.any:=by unfold lk;rw[Ss];rfl
def xr(d:Nat)(v:LV)(l:My)(t:Nat):lk ((d,v)::l) t=if t=d then v else lk l t:=by unfold lk;rw[Ss];rfl
inductive LObj where
 |dead (st:Nat)
 |cells (l:List LV) (st:Nat)
 |dyn (l:List LV) (len esz ver st:Nat)
 |map (es:List (LV×LV×Nat)) (clock st:Nat)
 |iter (l:List UInt8) (pos:Nat)
 |loop (s:LoopState) (pend:Option Code) (f n:Nat) (ρ:My) (ps:Array Tmp) (a b:Code) (d:Nat)
 |defd (op:Bool)
abbrev Mu:=List LObj
def LObj.live:LObj→Bool
 |.dead _=>false
 |_=>true
def LObj.stp:LObj→Bool
 |.cells _ _=>true
 |.dyn _ _ _ _ _=>true
 |.map _ _ _=>true
 |_=>false
def LObj.st:LObj→Nat
 |.cells _ st=>st
 |.dyn _ _ _ _ st=>st
 |.map _ _ st=>st
 |.dead st=>st
 |_=>0
def LV.cells:LV→Option (List LV)
 |.any=>none
 |.agg cs=>some cs
 |.tup _=>none
 |v=>some [v]
mutual
def toA:LV→AV
 |.bool b=>.bool b
 |.u x=>.int .u64 (Int.ofNat x.toNat)
 |.b x=>.int .u8 (Int.ofNat x.toNat)
 |.i n=>.int .i64 n
 |.int k n=>.int k n
 |.str l=>.str l.length (Oh l)
 |.nilPtr=>.nilPtr
 |.nilSl=>.nilSl
 |.nilMap=>.nilMap
 |.nilFn=>.nilFn
 |.fn f _ _=>.fn f [] []
 |.nilIf=>.nilIf
 |.agg l=>.agg (toAs l)
 |.tup l=>.tup (toAs l)
 |_=>.tup []
def toAs:List LV→List AV
 |[]=>[]
 |v::l=>toA v::toAs l
end
def LV.scal:LV→Bool
 |.bool _ |.u _ |.b _ |.i _ |.int _ _ |.str _ |.nilPtr |.nilSl |.nilMap |.nilFn |.nilIf=>true
 |_=>false
def LV.cst:LV→Bool
 |.fn (.func _) [] []=>true
 |.agg l=>l.all LV.scal
 |.tup []=>true
 |v=>v.scal
structure Cx where
 hd:List (Nat×AV)
 Fz:Nat→Prop
 H:Heap
def cj:AV→Bool
 |.nilSl=>true
 |.emp=>true
 |.sl _ _ _ _ _ _=>true
 |_=>false
def Vj(z:Nat)(h a:AV):Prop:=z=0→match a with
 |.sl _ _ _ _ _ g=>match h with
  |.sl _ _ _ len _ j=>g=j∨∃r,g=some r∧r≤len
  |_=>True
 |_=>True
mutual
inductive AR (c:Cx):LV→AV→Prop where
 |any (a:AV):AR c .any a
 |bool (b:Bool):AR c (.bool b) (.bool b)
 |u (x:UInt64):AR c (.u x) (.int .u64 (Int.ofNat x.toNat))
 |b (x:UInt8):AR c (.b x) (.int .u8 (Int.ofNat x.toNat))
 |i (n:Int):AR c (.i n) (.int .i64 n)
 |int (k:IntKind) (n:Int):AR c (.int k n) (.int k n)
 |str (l:List UInt8):AR c (.str l) (.str l.length (Oh l))
 |nilPtr:AR c .nilPtr .nilPtr
 |ptr {p i o:Nat} (h:c.hd[p]?=some (0,.ptr o 0 0)):AR c (.ptr p i) (.ptr o 0 i)
 |dptr {p k i k' o v j:Nat} {h:AV} (hp:c.hd[p]?=some (k',h)) (hk:k≤k') (ha:k=k'→j=i∧∃len esz room,h=.sl o v 0 len esz room):AR c (.dptr p k i) (.ptr o v j)
 |cptr {l:List LV} {i o v j:Nat} {l':List AV} (hf:c.Fz o) (hr:Pg c.H o v j l.length=some l') (hl:ARs c l l'):AR c (.cptr l i) (.ptr o v (j+i))
 |nilSl:AR c .nilSl .nilSl
 |dy {p k k':Nat} {h a:AV} (hp:c.hd[p]?=some (k',h)) (hk:k≤k') (ha:k=k'→a=h) (hs:cj a=true):AR c (.dy p k) a
 |vw {p k lo len k':Nat} {h a:AV} (hp:c.hd[p]?=some (k',h)) (hk:k≤k') (ha:k=k'→(len=0∧(a=.nilSl∨(a=.emp∧lo≠0)))∨∃o v len' esz room room',h=.sl o v 0 len' esz room∧a=.sl o v (lo*esz) len esz room'∧∀r,room'=some r→len≤r) (hs:cj a=true) (hz:k=k'→Vj lo h a):AR c (.vw p k lo len) a
 |vf {p k len k':Nat} {h a:AV} (hp:c.hd[p]?=some (k',h)) (hk:k≤k') (ha:k=k'→∃o v len' esz room,h=.sl o v 0 len' esz room∧a=.sl o v 0 len esz (some len)) (hs:cj a=true):AR c (.vf p k len) a
 |lst {l:List LV} {len esz o v i:Nat} {room:Option Nat} {l':List AV} (hf:c.Fz o) (hrm:∀r,room=some r→len≤r) (hlen:l.length=len*esz) (hr:Pg c.H o v i (len*esz)=some l') (hl:ARs c l l'):AR c (.lst l len esz) (.sl o v i len esz room)
 |lstNil {esz:Nat}:AR c (.lst [] 0 esz) .nilSl
 |lstEmp {esz:Nat}:AR c (.lst [] 0 esz) .emp
 |nilMap:AR c .nilMap .nilMap
 |map {p o:Nat} (h:c.hd[p]?=some (0,.map o)):AR c (.map p) (.map o)
 |nilFn:AR c .nilFn .nilFn
 |fn {f:Nat} {l r:List LV} {l' r':List AV} (hl:ARs c l l') (hr:ARs c r r'):AR c (.fn (.func f) l r) (.fn (.func f) l' r')
 |yield {p o:Nat} (h:c.hd[p]?=some (0,.ptr o 0 0)):AR c (.fn (.yield p) [] []) (.fn (.yield o) [] [])
 |nilIf:AR c .nilIf .nilIf
 |iface {t:TypeId} {v:LV} {a:AV} (h:AR c v a):AR c (.iface t v) (.iface t a)
 |agg {l:List LV} {l':List AV} (h:ARs c l l'):AR c (.agg l) (.agg l')
 |tup {l:List LV} {l':List AV} (h:ARs c l l'):AR c (.tup l) (.tup l')
inductive ARs (c:Cx):List LV→List AV→Prop where
 |nil:ARs c [] []
 |cons {v:LV} {a:AV} {l:List LV} {r:List AV} (h:AR c v a) (hs:ARs c l r):ARs c (v::l) (a::r)
end
inductive MRs (c:Cx):List (LV×LV×Nat)→List (AV×AV×Nat)→Prop where
 |nil:MRs c [] []
 |cons {k v:LV} {a b:AV} {n:Nat} {l:List (LV×LV×Nat)} {r:List (AV×AV×Nat)} (hk:AR c k a) (hv:AR c v b) (h:MRs c l r):MRs c ((k,v,n)::l) ((a,b,n)::r)
def Nu(c:Cx)(g:My)(j:Tr AV):Prop:=∀t,AR c (lk g t) ((Mz (M6 t) j).getD Qs)
def ku(c:Cx)(k:Nat)(h:AV):LObj→Prop
 |.dead _=>True
 |.cells l _=>k=0∧∃o t A,h=.ptr o 0 0∧c.H.get o=some (.cells t l.length 0 false)∧Rb t 0 l.length=some A∧ARs c l A
 |.dyn l len j D _=>k=D∧l.length=len*j∧((h=.nilSl∧len=0)∨∃o v z t g A,h=.sl o v 0 len j z∧c.H.get o=some (.cells t g v false)∧len*j≤g ∧
   Rb t 0 (len*j)=some A∧ARs c l A∧(∀r,z=some r→g=r*j∧len≤r)∧(z=none→g=len*j))
 |.map G H _=>k=0∧∃o B,h=.map o∧c.H.get o=some (.map B H)∧MRs c G B
 |.iter l E=>k=0∧∃o,h=.ptr o 0 0∧c.H.get o=some (.iter l.length (Oh l) E)
 |.loop s C f n L I a b d=>k=0∧∃o F K,h=.ptr o 0 0∧c.hd[d]?=some (0,.ptr F 0 0)∧c.H.get o=some (.loop s C f n K I a b F)∧Nu c L K
 |.defd op=>k=0∧∃o,h=.ptr o 0 0∧c.H.get o=some (.defd op)
def Ot(c:Cx)(j:Mu)(o:Nat):Prop:=∃(p:Nat) (g:LObj) (k:Nat) (h:AV),j[p]?=some g∧g.live=true∧c.hd[p]?=some (k,h)∧Nk h=some o
structure HSim (c:Cx) (G:Mu):Prop where
 len:c.hd.length=G.length
 fz:∀o,c.Fz o→o<c.H.next
 lt:∀o,Ot c G o→o<c.H.next
 sep:∀o,Ot c G o→¬c.Fz o
 obj:∀(p:Nat) (ob:LObj) (k:Nat) (h:AV),G[p]?=some ob→c.hd[p]?=some (k,h)→ku c k h ob
 excl:∀(p q:Nat) (ob ob':LObj) (k:Nat) (h:AV) (k':Nat) (h':AV) (o:Nat),G[p]?=some ob→G[q]?=some ob'→ob.live=true→ob'.live=true→c.hd[p]?=some (k,h)→c.hd[q]?=some (k',h')→Nk h=some o→Nk h'=some o→p=q
def V3:AV→Bool
 |.ptr _ _ _=>true
 |.map _=>true
 |_=>false
structure CxLe (c c':Cx):Prop where
 hd:∀(p k:Nat) (h:AV),c.hd[p]?=some (k,h)→∃(k':Nat) (h':AV),c'.hd[p]?=some (k',h')∧k≤k'∧(k=k'→h=h')∧(V3 h=true→k=k')
 fz:∀o,c.Fz o→c'.Fz o∧c'.H.get o=c.H.get o
structure Step (c:Cx) (G:Mu) (c':Cx) (G':Mu):Prop where
 le:CxLe c c'
 nx:c.H.next≤c'.H.next
 frame:∀o,o<c.H.next→¬Ot c G o→c'.H.get o=c.H.get o
 new:∀o,Ot c' G' o→Ot c G o∨c.H.next≤o
 fznew:∀o,c'.Fz o→c.Fz o∨Ot c G o∨c.H.next≤o
 mono:∀(p:Nat) (ob ob':LObj),G[p]?=some ob→G'[p]?=some ob'→ob.st≤ob'.st
 st:∀(p:Nat) (ob ob':LObj) (k:Nat) (h:AV) (o:Nat),G[p]?=some ob→G'[p]?=some ob'→c.hd[p]?=some (k,h)→Nk h=some o→ob.stp=true→ob.st=ob'.st→ob'=ob∧c'.H.get o=c.H.get o∧c'.hd[p]?=c.hd[p]?
inductive Lx where
 |t (i:Nat)
 |c (v:LV)
def Lx.ev(ρ:My):Lx→LV
 |.t i=>lk ρ i
 |.c v=>v
def Lx.r:Lx→Ox
 |.t i=>.t i
 |.c v=>.c (toA v)
def Lx.ok:Lx→Bool
 |.t _=>true
 |.c v=>v.cst
inductive LOp where
 |move (x:Lx)
 |pick (c a b:Lx)
 |alloc (l:List LV)
 |box (x:Lx)
 |build (cs:List LV) (ps:List (Nat×Nat×Lx))
 |buildSl (size len:Nat) (cs:List LV) (ps:List (Nat×Nat×Lx))
 |load1 (x:Lx)
 |loadN (n:Nat) (x:Lx)
 |store (n:Nat) (x y:Lx)
 |nilChk (x:Lx)
 |bin (op:BinOp) (g:Bool) (t:TypeId) (x y:Lx)
 |un (op:UnOp) (x:Lx)
 |cvInt (k:IntKind) (x:Lx)
 |cvStr (x:Lx)
 |cvSame (x:Lx)
 |cvBytes (x:Lx)
 |mkFunc (f:Nat) (first cap:List Lx)
 |mkSl (size:Nat) (z:List LV) (l c:Lx)
 |slStr (x:Lx) (lo hi:Option Lx)
 |slSl (size:Nat) (x:Lx) (lo hi:Option Lx)
 |slSl3 (size:Nat) (x:Lx) (lo hi:Option Lx) (mx:Lx)
 |fieldAddr (off:Nat) (x:Lx)
 |field (g:Bool) (n off:Nat) (x:Lx)
 |ixAddr (size:Nat) (x i:Lx)
 |ixStr (x i:Lx)
 |extract (i:Nat) (x:Lx)
 |lenStr (x:Lx)
 |lenSl (x:Lx)
 |maxi (mx:Bool) (x y:Lx)
 |max3 (mx:Bool) (x y z:Lx)
 |ixAddrArr (len size:Nat) (x i:Lx)
 |ixArr (g:Bool) (len size:Nat) (x i:Lx)
 |lenArr (n:Nat) (x:Lx)
 |appZ (size:Nat) (z:List LV) (s x:Lx)
 |appG (size:Nat) (s x:Lx)
 |copy (size:Nat) (d x:Lx)
 |clear (size:Nat) (z:List LV) (x:Lx)
 |mkMap0
 |mkMap1 (x:Lx)
 |lookup (d:TypeDesc) (z:LV) (ok:Bool) (x i:Lx)
 |mapUpd (d:TypeDesc) (m k v:Lx)
 |lenMap (x:Lx)
 |slArr (n size:Nat) (x:Lx) (lo hi:Option Lx)
 |callV (f:Lx) (args:List Lx)
def yw:List (Nat×Nat×Lx)→List (Nat×Nat×Ox)
 |[]=>[]
 |(a,b,x)::l=>(a,b,x.r)::yw l
def dt:List Lx→List Ox
 |[]=>[]
 |x::l=>x.r::dt l
def LOp.r:LOp→ROp
 |.move x=>.move x.r
 |.pick c a b=>.pick c.r a.r b.r
 |.alloc l=>.alloc (toAs l)
 |.box x=>.box x.r
 |.build cs ps=>.build (toAs cs) (yw ps)
 |.buildSl s n cs ps=>.buildSl s n (toAs cs) (yw ps)
 |.load1 x=>.load1 x.r
 |.loadN n x=>.loadN n x.r
 |.store n x y=>.store n x.r y.r
 |.nilChk x=>.nilChk x.r
 |.bin op g t x y=>.bin op g t x.r y.r
 |.un op x=>.un op x.r
 |.cvInt k x=>.cvInt k x.r
 |.cvStr x=>.cvStr x.r
 |.cvSame x=>.cvSame x.r
 |.cvBytes x=>.cvBytes x.r
 |.mkFunc f a b=>.mkFunc (.func f) (dt a) (dt b)
 |.mkSl s z l c=>.mkSl s (toAs z) l.r c.r
 |.slStr x lo hi=>.slStr x.r (lo.map Lx.r) (hi.map Lx.r)
 |.slSl s x lo hi=>.slSl s x.r (lo.map Lx.r) (hi.map Lx.r) none
 |.slSl3 s x lo hi mx=>.slSl s x.r (lo.map Lx.r) (hi.map Lx.r) (some mx.r)
 |.fieldAddr o x=>.fieldAddr o x.r
 |.field g n o x=>.field g n o x.r
 |.ixAddr s x i=>.ixAddr s x.r i.r
 |.ixStr x i=>.ixStr x.r i.r
 |.extract i x=>.extract i x.r
 |.lenStr x=>.lenStr x.r
 |.lenSl x=>.lenSl x.r
 |.maxi m x y=>.maxi m [x.r,y.r]
 |.max3 m x y z=>.maxi m [x.r,y.r,z.r]
 |.ixAddrArr l s x i=>.ixAddrArr l s x.r i.r
 |.ixArr g l s x i=>.ixArr g l s x.r i.r
 |.lenArr n x=>.lenArr n x.r
 |.appZ s z a x=>.appZ s (toAs z) a.r x.r
 |.appG s a x=>.appG s a.r x.r
 |.copy s d x=>.copy s d.r x.r
 |.clear s z x=>.clear s (toAs z) x.r
 |.mkMap0=>.mkMap0
 |.mkMap1 x=>.mkMap1 x.r
 |.lookup d z ok x i=>.lookup d (toA z) ok x.r i.r
 |.mapUpd d m k v=>.mapUpd d m.r k.r v.r
 |.lenMap x=>.lenMap x.r
 |.slArr n s x lo hi=>.slArr n s x.r (lo.map Lx.r) (hi.map Lx.r) none
 |.callV f l=>.callV f.r (dt l)
def Q5(n:Int):Prop:=-9223372036854775808≤n∧n<9223372036854775808
def Sr:UInt64→UInt64→UInt64:=Pd λa b=>a+b
def Zz:UInt64→UInt64→UInt64:=Pd λa b=>a-b
def Rv:UInt64→UInt64→UInt64:=Pd λa b=>a*b
def tr:UInt64→UInt64→UInt64:=Pd λa b=>a/b
def mz:UInt64→UInt64→UInt64:=Pd λa b=>a%b
def Q1:UInt64→UInt64→UInt64:=Pd λa b=>a &&& b
def orU:UInt64→UInt64→UInt64:=Pd λa b=>a ||| b
def nr:UInt64→UInt64→UInt64:=Pd λa b=>a ^^^ b
def du:UInt64→UInt64:=Pd λa => ~~~a
def Zo:UInt64→Nat→UInt64:=Pd λa s=>UInt64.ofNat (a.toNat*2^s)
def P9:UInt64→Nat→UInt64:=Pd λa s=>UInt64.ofNat (a.toNat/2^s)
def sm:UInt8→UInt8→UInt8:=Pd λa b=>a+b
def sq:UInt8→UInt8→UInt8:=Pd λa b=>a-b
def n7:UInt8→UInt8→UInt8:=Pd λa b=>a &&& b
def orB:UInt8→UInt8→UInt8:=Pd λa b=>a ||| b
def iU:Int→UInt64:=Pd λa=>UInt64.ofInt a
def bU:UInt8→UInt64:=Pd λa=>UInt64.ofNat a.toNat
def uB:UInt64→UInt8:=Pd λa=>UInt8.ofNat a.toNat
def iB:Int→UInt8:=Pd λa=>UInt8.ofInt a
def zk8(a b:UInt64):Sr a b=a+b:=by unfold Sr;rw[Ss]
def zov(a b:UInt64):Zz a b=a-b:=by unfold Zz;rw[Ss]
def zj3(a b:UInt64):Rv a b=a*b:=by unfold Rv;rw[Ss]
def cy(a b:UInt64):tr a b=a/b:=by unfold tr;rw[Ss]
def cz(a b:UInt64):mz a b=a%b:=by unfold mz;rw[Ss]
def zvg(a b:UInt64):Q1 a b=a &&& b:=by unfold Q1;rw[Ss]
def qq(a b:UInt64):orU a b=a ||| b:=by unfold orU;rw[Ss]
def gu(a b:UInt64):nr a b=a ^^^ b:=by unfold nr;rw[Ss]
def zsv(a:UInt64):du a = ~~~a:=by unfold du;rw[Ss]
def gl(a:UInt64)(s:Nat):Zo a s=UInt64.ofNat (a.toNat*2^s):=by unfold Zo;rw[Ss]
def zoh(a:UInt64)(s:Nat):P9 a s=UInt64.ofNat (a.toNat/2^s):=by unfold P9;rw[Ss]
def io(a b:UInt8):sm a b=a+b:=by unfold sm;rw[Ss]
def eh(a b:UInt8):sq a b=a-b:=by unfold sq;rw[Ss]
def gy(a b:UInt8):n7 a b=a &&& b:=by unfold n7;rw[Ss]
def s8(a b:UInt8):orB a b=a ||| b:=by unfold orB;rw[Ss]
def lf(a:Int):iU a=UInt64.ofInt a:=by unfold iU;rw[Ss]
def zq(a:UInt8):bU a=UInt64.ofNat a.toNat:=by unfold bU;rw[Ss]
def zh(a:UInt64):uB a=UInt8.ofNat a.toNat:=by unfold uB;rw[Ss]
def x4(a:Int):iB a=UInt8.ofInt a:=by unfold iB;rw[Ss]
def Vf(op:BinOp)(a b:UInt64)(g:LV→Prop):Prop:=match op with
 |.add=>g (.u (Sr a b))
 |.sub=>g (.u (Zz a b))
 |.mul=>g (.u (Rv a b))
 |.quo=>b≠0∧g (.u (tr a b))
 |.rem=>b≠0∧g (.u (mz a b))
 |.and=>g (.u (Q1 a b))
 |.or=>g (.u (orU a b))
 |.xor=>g (.u (nr a b))
 |.andNot=>g (.u (Q1 a (du b)))
 |.shl=>g (.u (Zo a b.toNat))
 |.shr=>g (.u (P9 a b.toNat))
 |.eql=>g (.bool (decide (a=b)))
 |.neq=>g (.bool (decide (a≠b)))
 |.lss=>g (.bool (decide (a<b)))
 |.leq=>g (.bool (decide (a≤b)))
 |.gtr=>g (.bool (decide (b<a)))
 |.geq=>g (.bool (decide (b≤a)))
def bbL(op:BinOp)(a b:UInt8)(g:LV→Prop):Prop:=match op with
 |.add=>g (.b (sm a b))
 |.sub=>g (.b (sq a b))
 |.and=>g (.b (n7 a b))
 |.or=>g (.b (orB a b))
 |.eql=>g (.bool (decide (a=b)))
 |.neq=>g (.bool (decide (a≠b)))
 |.lss=>g (.bool (decide (a<b)))
 |.leq=>g (.bool (decide (a≤b)))
 |.gtr=>g (.bool (decide (b<a)))
 |.geq=>g (.bool (decide (b≤a)))
 |_=>False
def Uh(op:BinOp)(a b:Int)(g:LV→Prop):Prop:=match op with
 |.add=>Q5 (a+b)∧g (.i (a+b))
 |.sub=>Q5 (a-b)∧g (.i (a-b))
 |.mul=>Q5 (a*b)∧g (.i (a*b))
 |.quo=>b≠0∧Q5 (a.tdiv b)∧g (.i (a.tdiv b))
 |.rem=>b≠0∧g (.i (a.tmod b))
 |.shl=>0≤a∧0≤b∧b≤64∧Q5 (a*2^b.toNat)∧g (.i (a*2^b.toNat))
 |.shr=>0≤a∧0≤b∧b≤64∧g (.i (a/2^b.toNat))
 |.and=>0≤a∧a<9223372036854775808∧0≤b∧b<9223372036854775808∧g (.i (a.toNat &&& b.toNat:Nat))
 |.or=>0≤a∧a<9223372036854775808∧0≤b∧b<9223372036854775808∧g (.i (a.toNat ||| b.toNat:Nat))
 |.eql=>g (.bool (decide (a=b)))
 |.neq=>g (.bool (decide (a≠b)))
 |.lss=>g (.bool (decide (a<b)))
 |.leq=>g (.bool (decide (a≤b)))
 |.gtr=>g (.bool (decide (b<a)))
 |.geq=>g (.bool (decide (b≤a)))
 |_=>False
def kkL(op:BinOp)(a b:Int)(g:LV→Prop):Prop:=match op with
 |.eql=>g (.bool (decide (a=b)))
 |.neq=>g (.bool (decide (a≠b)))
 |.lss=>g (.bool (decide (a<b)))
 |.leq=>g (.bool (decide (a≤b)))
 |.gtr=>g (.bool (decide (b<a)))
 |.geq=>g (.bool (decide (b≤a)))
 |_=>False
def ssL(op:BinOp)(a b:List UInt8)(g:LV→Prop):Prop:=match op with
 |.add=>a.length+b.length≤1000000000∧g (.str (a++b))
 |.eql=>g (.bool (decide (a=b)))
 |.neq=>g (.bool (decide (a≠b)))
 |_=>False
def Vx(g:Program)(op:BinOp)(j:Bool)(t:TypeId)(a b:AV)(r:Bool)(z:LV→Prop):Prop:=match op with
 |.eql=>Qo g j t a b=some r∧z (.bool r)
 |.neq=>Qo g j t a b=some r∧z (.bool (!r))
 |_=>False
def fj(g:Program)(op:BinOp)(j:Bool)(t:TypeId)(l r:List LV)(z:LV→Prop):Prop:=match op with
 |.eql=>∃b,l.all LV.scal=true∧r.all LV.scal=true∧Qo g j t (.agg (toAs l)) (.agg (toAs r))=some b∧z (.bool b)
 |.neq=>∃b,l.all LV.scal=true∧r.all LV.scal=true∧Qo g j t (.agg (toAs l)) (.agg (toAs r))=some b∧z (.bool (!b))
 |_=>False
def lstN(op:BinOp)(len:Nat)(g:LV→Prop):Prop:=match op with
 |.eql=>g (.bool false)∧(len=0→g (.bool true))
 |.neq=>g (.bool true)∧(len=0→g (.bool false))
 |_=>False
def Q7(j:Program)(op:BinOp)(z:Bool)(t:TypeId)(x y:LV)(g:LV→Prop):Prop:=match x,y with
 |.u a,.u b=>Vf op a b g
 |.i a,.i b=>Uh op a b g
 |.b a,.b b=>bbL op a b g
 |.bool a,.bool b=>match op with
  |.eql=>Qo j z t (.bool a) (.bool b)=some (a==b)∧g (.bool (a==b))
  |.neq=>Qo j z t (.bool a) (.bool b)=some (a==b)∧g (.bool (!(a==b)))
  |_=>False
 |.u a,.i s=>match op with
  |.shl=>0≤s∧g (.u (Zo a s.toNat))
  |.shr=>0≤s∧g (.u (P9 a s.toNat))
  |_=>False
 |.i a,.u s=>match op with
  |.shl=>0≤a∧s.toNat≤64∧Q5 (a*2^s.toNat)∧g (.i (a*2^s.toNat))
  |.shr=>0≤a∧s.toNat≤64∧g (.i (a/2^s.toNat))
  |_=>False
 |.int k a,.int A b=>k=A∧kkL op a b g
 |.str a,.str b=>ssL op a b g
 |.nilPtr,.nilPtr=>Vx j op z t .nilPtr .nilPtr true g
 |.ptr _ _,.nilPtr=>Vx j op z t (.ptr 0 0 0) .nilPtr false g
 |.nilSl,.nilSl=>Vx j op z t .nilSl .nilSl true g
 |.lst _ len _,.nilSl=>Qo j z t .nilSl .nilSl=some true∧lstN op len g
 |.agg l,.agg r=>fj j op z t l r g
 |_,_=>False
def oz(op:UnOp)(x:LV)(g:LV→Prop):Prop:=match op,x with
 |.not,.bool b=>g (.bool (!b))
 |.neg,.u a=>g (.u (Zz 0 a))
 |.neg,.i a=>Q5 (-a)∧g (.i (-a))
 |.xor,.u a=>g (.u (du a))
 |_,_=>False
def w32(n:Int):Int:=(n+2147483648)%4294967296-2147483648
def ft(k:IntKind)(x:LV)(g:LV→Prop):Prop:=match k,x with
 |.u64,.u a=>g (.u a)
 |.u64,.i a=>g (.u (iU a))
 |.u64,.b a=>g (.u (bU a))
 |.i64,.u a=>a.toNat<9223372036854775808∧g (.i a.toNat)
 |.i64,.i a=>Q5 a∧g (.i a)
 |.i64,.b a=>g (.i a.toNat)
 |.u8,.u a=>g (.b (uB a))
 |.u8,.i a=>g (.b (iB a))
 |.u8,.b a=>g (.b a)
 |.u8,.int _ a=>g (.b (iB a))
 |.i32,.i a=>g (.int .i32 (w32 a))
 |.i64,.int _ a=>Q5 a∧g (.i a)
 |_,_=>False
def Rt(t:Bool)(g j:Prop):Prop:=(t=true→g)∧(t=false→j)
def u7(v:LV)(g j:Prop):Prop:=match v with
 |.bool t=>Rt t g j
 |_=>False
def Ud(z:Mu)(x:LV)(n:Nat)(j:List LV→Prop):Prop:=match x with
 |.ptr p i=>match z[p]? with
  |some (.cells l _)=>i+n≤l.length∧j ((l.drop i).take n)
  |_=>False
 |.dptr p k i=>match z[p]? with
  |some (.dyn l _ _ g _)=>k=g∧i+n≤l.length∧j ((l.drop i).take n)
  |_=>False
 |.cptr l i=>i+n≤l.length∧j ((l.drop i).take n)
 |_=>False
def N6(l:List LV)(i:Nat)(g:LV→Prop):Prop:=∃v,l[i]?=some v∧g v
def Ui(z:Mu)(x:LV)(j:LV→Prop):Prop:=match x with
 |.ptr p i=>match z[p]? with
  |some (.cells l _)=>N6 l i j
  |_=>False
 |.dptr p k i=>match z[p]? with
  |some (.dyn l _ _ g _)=>k=g∧N6 l i j
  |_=>False
 |.cptr l i=>N6 l i j
 |_=>False
def Nh(l:List LV)(i:Nat)(r:List LV):List LV:=l.take i++r++l.drop (i+r.length)
def Tn(z:Mu)(x:LV)(r:List LV)(A:Mu→Prop):Prop:=match x with
 |.ptr p i=>match z[p]? with
  |some (.cells l st)=>i+r.length≤l.length∧A (z.set p (.cells (Nh l i r) (st+1)))
  |_=>False
 |.dptr p k i=>match z[p]? with
  |some (.dyn l len j g st)=>k=g∧i+r.length≤l.length∧A (z.set p (.dyn (Nh l i r) len j g (st+1)))
  |_=>False
 |_=>False
def Na(g:List LV):Nat→List LV
 |0=>[]
 |n+1=>g++Na g n
def Ra(C:Mu)(j:Nat)(x:LV)(A:Nat→List LV→Prop):Prop:=match x with
 |.nilSl=>A 0 []
 |.dy p k=>match C[p]? with
  |some (.dyn l len g z _)=>k=z∧g=j∧A len l
  |_=>False
 |.vw p k B len=>match C[p]? with
  |some (.dyn l _ g z _)=>k=z∧g=j∧B*g+len*g≤l.length∧A len ((l.drop (B*g)).take (len*g))
  |_=>False
 |.lst l len g=>g=j∧A len l
 |.str l=>j=1∧A l.length (l.map LV.b)
 |_=>False
def sf(A:Mu)(x:LV)(z:List LV→Prop):Prop:=match x with
 |.nilSl=>z []
 |.dy p k=>match A[p]? with
  |some (.dyn l _ g j _)=>k=j∧g=1∧z l
  |_=>False
 |.lst l len g=>g=1∧len≠0∧z l
 |_=>False
def lenL(z:Mu)(x:LV)(j:Nat→Prop):Prop:=match x with
 |.nilSl=>j 0
 |.dy p k=>match z[p]? with
  |some (.dyn _ len _ g _)=>k=g∧j len
  |_=>False
 |.vw p k _ len=>match z[p]? with
  |some (.dyn _ _ _ g _)=>k=g∧j len
  |_=>False
 |.lst _ len _=>j len
 |_=>False
def Pj(C:Mu)(j:Nat)(s:LV)(n:Nat)(A:List LV)(D:LV→Mu→Prop):Prop:=match s with
 |.nilSl=>D (.dy C.length 0) (C++[.dyn A n j 0 0])
 |.dy p k=>match C[p]? with
  |some (.dyn l len g z st)=>k=z∧(g=j∧0<g)∧len≤1000000000∧D (.dy p (z+1)) (C.set p (.dyn (l++A) (len+n) g (z+1) (st+1)))
  |_=>False
 |.vw p k E len=>match C[p]? with
  |some (.dyn l B g z st)=>k=z∧(g=j∧E=0∧0<n)∧len≤1000000000∧if (len+n)*g≤l.length then D (.vw p k 0 (len+n)) (C.set p (.dyn (Nh l (len*g) A) B g z (st+1)))∧D (.dy C.length 0) (C++[.dyn (l.take (len*g)++A) (len+n) j 0 0]) else len=B∧0<g∧D (.dy p (z+1)) (C.set p (.dyn (l++A) (len+n) g (z+1) (st+1)))∧D (.dy C.length 0) (C++[.dyn (l++A) (len+n) j 0 0])
  |_=>False
 |.vf p k len=>match C[p]? with
  |some (.dyn l _ g z _)=>k=z∧(g=j∧0<n)∧len≤1000000000∧len*g≤l.length∧D (.dy C.length 0) (C++[.dyn (l.take (len*g)++A) (len+n) j 0 0])
  |_=>False
 |_=>False
def bz(B:My)(z:List LV):List (Nat×Nat×Lx)→Option (List LV)
 |[]=>some z
 |(j,g,x)::A=>match (x.ev B).cells with
  |none=>none
  |some l=>if l.length=g∧j+g≤z.length then bz B (Nh z j l) A else none
def Um(d:TypeDesc)(a b:LV):Option Bool:=match d,a,b with
 |.int _,.i a,.i b=>some (decide (a=b))
 |.int _,.u a,.u b=>some (decide (a=b))
 |.string,.str a,.str b=>some (decide (a=b))
 |_,_,_=>none
def cg(d:TypeDesc)(k:LV)(g:Option LV→Prop):List (LV×LV×Nat)→Prop
 |[]=>g none
 |(j,v,_)::l=>match Um d k j with
  |some b=>Rt b (g (some v)) (cg d k g l)
  |none=>False
def Ty(d:TypeDesc)(k v:LV)(g:Nat)(K:List (LV×LV×Nat)→Bool→Prop):List (LV×LV×Nat)→Prop
 |[]=>K [(k,v,g)] true
 |(z,A,n)::l=>match Um d k z with
  |some b=>Rt b (K ((k,v,n)::l) false) (Ty d k v g (λr j=>K ((z,A,n)::r) j) l)
  |none=>False
def Ut(z:Mu)(x:LV)(j:List (LV×LV×Nat)→Prop):Prop:=match x with
 |.nilMap=>j []
 |.map p=>match z[p]? with
  |some (.map g _ _)=>j g
  |_=>False
 |_=>False
def xm(g:LV)(ok:Bool)(j:LV→Prop):Option LV→Prop
 |some v=>j (match ok with|true=>.tup [v,.bool true]|false=>v)
 |none=>j (match ok with|true=>.tup [g,.bool false]|false=>g)
def mq(A:Mu)(p j st:Nat)(B:Mu→Prop):List (LV×LV×Nat)→Bool→Prop:=λz g=>B (A.set p (.map z (match g with|true=>j+1|false=>j) (st+1)))
def kf(z:Mu)(d:TypeDesc)(m k v:LV)(A:Mu→Prop):Prop:=match m with
 |.map p=>match z[p]? with
  |some (.map j g st)=>Ty d k v g (mq z p g st A) j
  |_=>False
 |_=>False
def Om(j:My)(d:Nat)(x:Option Lx)(g:Nat→Prop):Prop:=match x with
 |none=>g d
 |some x=>match x.ev j with
  |.i n=>0≤n∧g n.toNat
  |.u n=>g n.toNat
  |_=>False
def l9(p k a b m:Nat):LV:=match decide (a=0∧b=m∧0<b) with
 |true=>.vf p k b
 |false=>.vw p k a (b-a)
def ixO(C:Mu)(g:Nat)(x:LV)(n:Int)(A:LV→Prop):Prop:=match x with
 |.dy p k=>match C[p]? with
  |some (.dyn _ len j z _)=>k=z∧j=g∧0≤n∧n<len∧A (.dptr p k (n.toNat*g))
  |_=>False
 |.vw p k B len=>match C[p]? with
  |some (.dyn _ _ j z _)=>k=z∧j=g∧0≤n∧n<len∧A (.dptr p k ((B+n.toNat)*g))
  |_=>False
 |.lst l len j=>j=g∧0≤n∧n<len∧A (.cptr l (n.toNat*g))
 |_=>False
inductive LTgt where
 |fn (f:Nat)
 |yield (p:Nat)
def se(c:Cx):LTgt→Tgt→Prop
 |.fn f,.fn g=>f=g
 |.yield p,.yield o=>c.hd[p]?=some (0,.ptr o 0 0)
 |_,_=>False
def fx(g:Program):LTgt→Prop
 |.fn f=>cq g f=true∧vj g f=false
 |.yield _=>True
def Pz(E:Program)(t:LTgt)(j:List LV)(F:Mu)(K:LV→Mu→Prop):Prop :=
 fx E t∧∀c B g,HSim c F→se c t B→ARs c j g→∃m C D,Qr E (OL E) m B g c.H=.ok C D∧∃z v A,z.H=D∧HSim z A∧Step c F z A∧AR z v C∧K v A
def Nd(S:Program)(A:My)(z:Mu)(o:LOp)(B:LV→Mu→Prop):Prop:=match o with
 |.move x=>B (x.ev A) z
 |.pick c a b=>match c.ev A with
  |.bool t=>match a.ev A,b.ev A with
   |.bool x,.bool y=>B (.bool (match t with|true=>x|false=>y)) z
   |x,y=>Rt t (B x z) (B y z)
  |_=>False
 |.alloc l=>B (.ptr z.length 0) (z++[.cells l 0])
 |.box x=>match (x.ev A).cells with
  |some l=>B (.ptr z.length 0) (z++[.cells l 0])
  |none=>False
 |.build K L=>match bz A K L with
  |some l=>B (.agg l) z
  |none=>False
 |.buildSl g len K L=>match bz A K L with
  |some l=>l.length=len*g∧B (.dy z.length 0) (z++[.dyn l len g 0 0])
  |none=>False
 |.load1 x=>Ui z (x.ev A) λv=>B v z
 |.loadN n x=>Ud z (x.ev A) n λl=>B (.agg l) z
 |.store n x y=>match (y.ev A).cells with
  |some l=>l.length=n∧Tn z (x.ev A) l λM=>B (.tup []) M
  |none=>False
 |.nilChk x=>match x.ev A with
  |.ptr p i=>B (.ptr p i) z
  |.dptr p k i=>B (.dptr p k i) z
  |.cptr l i=>B (.cptr l i) z
  |.fn (.func f) a b=>B (.fn (.func f) a b) z
  |_=>False
 |.bin op O t x y=>Q7 S op O t (x.ev A) (y.ev A) λv=>B v z
 |.un op x=>oz op (x.ev A) λv=>B v z
 |.cvInt k x=>ft k (x.ev A) λv=>B v z
 |.cvStr x=>sf z (x.ev A) λl=>∃Q:List UInt8,l=Q.map LV.b∧B (.str Q) z
 |.cvSame x=>match x.ev A with
  |.str l=>B (.str l) z
  |_=>False
 |.cvBytes x=>match x.ev A with
  |.str l=>B (.dy z.length 0) (z++[.dyn (l.map LV.b) l.length 1 0 0])
  |_=>False
 |.mkFunc f a b=>B (.fn (.func f) (a.map (·.ev A)) (b.map (·.ev A))) z
 |.mkSl g I l c=>match l.ev A,c.ev A with
  |.i l,.i c=>l=c∧0≤l∧l≤1048576∧I.length=g∧B (.dy z.length 0) (z++[.dyn (Na I l.toNat) l.toNat g 0 0])
  |_,_=>False
 |.slStr x D hi=>match x.ev A with
  |.str l=>Om A 0 D λa=>Om A l.length hi λb=>a≤b∧b≤l.length∧B (.str ((l.drop a).take (b-a))) z
  |_=>False
 |.slSl g x D hi=>match x.ev A with
  |.nilSl=>Om A 0 D λa=>Om A 0 hi λb=>a=0∧b=0∧B .nilSl z
  |.dy p k=>match z[p]? with
   |some (.dyn _ len j C _)=>k=C∧j=g∧Om A 0 D λa=>Om A len hi λb=>a≤b∧b≤len∧B (.vw p k a (b-a)) z
   |_=>False
  |.vw p k T len=>match z[p]? with
   |some (.dyn _ _ j C _)=>k=C∧j=g∧Om A 0 D λa=>Om A len hi λb=>a≤b∧b≤len∧B (.vw p k (T+a) (b-a)) z
   |_=>False
  |.lst l len j=>j=g∧Om A 0 D λa=>Om A len hi λb=>a≤b∧b≤len∧B (.lst ((l.drop (a*j)).take ((b-a)*j)) (b-a) j) z
  |_=>False
 |.slSl3 g x D hi H=>match x.ev A with
  |.dy p k=>match z[p]? with
   |some (.dyn _ len j C _)=>k=C∧j=g∧Om A 0 D λa=>Om A len hi λb=>Om A 0 (some H) λm=>0<len∧a≤b∧b≤m∧m≤len∧B (l9 p k a b m) z
   |_=>False
  |.lst l len j=>j=g∧Om A 0 D λa=>Om A len hi λb=>Om A 0 (some H) λm=>0<len∧a≤b∧b≤m∧m≤len∧B (.lst ((l.drop (a*j)).take ((b-a)*j)) (b-a) j) z
  |_=>False
 |.fieldAddr E x=>match x.ev A with
  |.ptr p i=>B (.ptr p (i+E)) z
  |.dptr p k i=>B (.dptr p k (i+E)) z
  |.cptr l i=>B (.cptr l (i+E)) z
  |_=>False
 |.field O n E x=>match x.ev A with
  |.agg l=>match O with
   |true=>E+n≤l.length∧B (.agg ((l.drop E).take n)) z
   |false=>N6 l E λv=>B v z
  |_=>False
 |.ixAddr g x i=>match i.ev A with
  |.i n=>ixO z g (x.ev A) n λv=>B v z
  |.u n=>ixO z g (x.ev A) (n.toNat:Int) λv=>B v z
  |_=>False
 |.ixStr x i=>match x.ev A,i.ev A with
  |.str l,.i n=>0≤n∧n<l.length∧B (.b (l.getD n.toNat 0)) z
  |.str l,.u n=>n.toNat<l.length∧B (.b (l.getD n.toNat 0)) z
  |.str l,.b n=>n.toNat<l.length∧B (.b (l.getD n.toNat 0)) z
  |_,_=>False
 |.extract i x=>match x.ev A with
  |.tup l=>N6 l i λv=>B v z
  |_=>False
 |.lenStr x=>match x.ev A with
  |.str l=>B (.i l.length) z
  |_=>False
 |.lenSl x=>lenL z (x.ev A) λn=>B (.i n) z
 |.maxi H x y=>match x.ev A,y.ev A with
  |.i a,.i b=>B (.i (match H with|true=>max a b|false=>min a b)) z
  |.u a,.u b=>B (.u (match H with|true=>if a<b then b else a|false=>if b<a then b else a)) z
  |_,_=>False
 |.max3 H x y I=>match x.ev A with
  |.i a=>match y.ev A with
   |.i b=>match I.ev A with
    |.i d=>B (.i (match H with|true=>max (max a b) d|false=>min (min a b) d)) z
    |_=>False
   |_=>False
  |_=>False
 |.ixAddrArr len g x i=>match i.ev A with
  |.i n=>0≤n∧n<len∧match x.ev A with
   |.ptr p R=>B (.ptr p (R+n.toNat*g)) z
   |.dptr p k R=>B (.dptr p k (R+n.toNat*g)) z
   |.cptr l R=>B (.cptr l (R+n.toNat*g)) z
   |_=>False
  |_=>False
 |.ixArr O len g x i=>match i.ev A with
  |.i n=>0≤n∧n<len∧match x.ev A with
   |.agg l=>match O with
    |true=>n.toNat*g+g≤l.length∧B (.agg ((l.drop (n.toNat*g)).take g)) z
    |false=>N6 l (n.toNat*g) λv=>B v z
   |_=>False
  |_=>False
 |.lenArr n _=>B (.i n) z
 |.appZ g I s x=>match x.ev A with
  |.i n=>0≤n∧n≤1048576∧I.length=g∧Pj z g (s.ev A) n.toNat (Na I n.toNat) B
  |_=>False
 |.appG g s x=>Ra z g (x.ev A) λn l=>n≤1048576∧Pj z g (s.ev A) n l B
 |.copy g d x=>Ra z g (x.ev A) λn l=>match d.ev A with
  |.dy p k=>match z[p]? with
   |some (.dyn r len j C st)=>k=C∧j=g∧B (.i (min n len:Nat)) (z.set p (.dyn (Nh r 0 (l.take (min n len*g))) len j C (st+1)))
   |_=>False
  |.vw p k D len=>match z[p]? with
   |some (.dyn r F j C st)=>k=C∧j=g∧(D+len)*g≤r.length∧B (.i (min n len:Nat)) (z.set p (.dyn (Nh r (D*g) (l.take (min n len*g))) F j C (st+1)))
   |_=>False
  |_=>False
 |.clear g I x=>match x.ev A with
  |.vw p k D len=>match z[p]? with
   |some (.dyn r F j C st)=>k=C∧j=g∧I.length=g∧(D+len)*g≤r.length∧B .any (z.set p (.dyn (Nh r (D*g) (Na I len)) F j C (st+1)))
   |_=>False
  |_=>False
 |.mkMap0=>B (.map z.length) (z++[.map [] 0 0])
 |.mkMap1 x=>match x.ev A with
  |.i _=>B (.map z.length) (z++[.map [] 0 0])
  |_=>False
 |.lookup d I ok x i=>Ut z (x.ev A) λP=>cg d (i.ev A) (xm I ok λv=>B v z) P
 |.mapUpd d m k v=>kf z d (m.ev A) (k.ev A) (v.ev A) λM=>B .any M
 |.lenMap x=>Ut z (x.ev A) λP=>B (.i P.length) z
 |.slArr n g x D hi=>match x.ev A with
  |.ptr p i=>match z[p]? with
   |some (.cells l st)=>i+n*g≤l.length∧Om A 0 D λa=>Om A n hi λb=>a≤b∧b≤n∧B (.lst ((l.drop (i+a*g)).take ((b-a)*g)) (b-a) g) (z.set p (.dead (st+1)))
   |_=>False
  |_=>False
 |.callV f G=>match f.ev A with
  |.fn (.func O) a b=>Pz S (.fn O) (a++G.map (·.ev A)++b) z B
  |.fn (.yield p) [] _=>Pz S (.yield p) (G.map (·.ev A)) z B
  |_=>False
end
variable{Y:List LV}{O:LV}{vO:Cx}
section
def ui{t:Tr AV}:∀{n i:Nat} {l:List AV},l.length=n→(∀g,g<n→Mz (M6 (i+g)) t=l[g]?)→Rb t i n=some l
 |0,i,l,h,_=>by
  have:l=[]:=Iu h;subst this;rfl
 |n+1,i,[],h,_=>Cj
 |n+1,i,a::l,h,k=>by
  have j:=k 0 J;simp only[La,Iq]at j;have z:=ui (t:=t) (n:=n) (i:=i+1) (l:=l) Aw (λg A=>by
   have:=k (g+1) J;rw[Is]at this;rw[←this,show i+1+g=i+(g+1) from J])
  simp only[Rb,j,z]
def zmk{t:Tr AV}{i n:Nat}{l:List AV}(h:Rb t 0 g=some l)(j:i+n≤g):Rb t i n=some ((l.drop i).take n):=by
 obtain⟨B,z⟩:=aj h;refine ui Ab (λC A=>?_);have:=z (i+C) J;rw[I7]at this;rw[this,I1 A,K5]
def jq(l:List AV):Rb (O8 l 0 .e) 0 l.length=some l :=
 ui rfl (λj g=>by rw[get_ofList,Ih J];simp)
def Zc(l:List AV)(i:Nat)(r:List AV):List AV:=l.take i++r++l.drop (i+r.length)
def zmd{l r:List AV}{i:Nat}(h:i+r.length≤l.length):(Zc l i r).length=l.length:=by
 unfold Zc;simp;omega
def zgx{l r:List AV}{i:Nat}(h:i+r.length≤l.length)(g:Nat):(Zc l i r)[g]?=if i≤g∧g<i+r.length then r[g-i]? else l[g]?:=by
 have hi:(l.take i).length=i:=Ab
 unfold Zc;by_cases j:g<i
 ·rw[Ig J,Iz,Ib J,I1 j]
 ·by_cases z:g<i+r.length
  ·rw[Ih J,Ib Ab,In J,hi]
  ·rw[Ig J,In Ab,K5]
   congr 1
   simp;omega
def ze5{t:Tr AV}{i:Nat}{l r:List AV}(h:Rb t 0 g=some l)(j:i+r.length≤g):Rb (O8 r i t) 0 g=some (Zc l i r):=by
 obtain⟨z,A⟩:=aj h;refine ui (by rw[zmd J];exact z) (λC B=>?_);have:=A C B;rw[I7]at this ⊢;rw[get_ofList,zgx J,this]
def zn4{t:Tr AV}{l r:List AV}(h:Rb t 0 g=some l):Rb (O8 r g t) 0 (g+r.length)=some (l++r):=by
 obtain⟨z,A⟩:=aj h;refine ui Ab (λB C=>?_);rw[I7,get_ofList];by_cases j:g≤B
 ·rw[Ih ⟨j,J⟩,In J,z]
 ·rw[Ig J,Ib J];have:=A B J
  rwa [I7]at this
def Tf{H:Heap}{o v i n:Nat}{t:Tr AV}{l:List AV}(A:H.get o=some (.cells t j v L))(B:Rb t 0 g=some l)(D:g≤j)(z:i+n≤g):Pg H o v i n=some ((l.drop i).take n):=by
 unfold Pg;rw[A];have C:Nat.ble (Nat.add i n) j=true:=If (by show i+n≤j;omega);simp only[I0,C];exact zmk B z
def pd{o:Nat}(h:U.get o=B.get o)(v i n:Nat):Pg U o v i n=Pg B o v i n:=by
 unfold Pg;rw[h]
def zic{o v i n m:Nat}{l:List AV}(h:Pg B o v i n=some l)(A:g+m≤n):Pg B o v (i+g) m=some ((l.drop g).take m):=by
 unfold Pg at h ⊢;split at h
 ·rename_i t j C H I;split at h
  ·rename_i K;split at h
   ·rename_i D;have E:i+n≤j:=Ik D;have z:Nat.ble (Nat.add (i+g) m) j=true:=If (by show i+g+m≤j;omega);simp only[z];obtain⟨L,F⟩:=aj h;refine ui Ab (λq G=>?_);have:=F (g+q) J;rw[Ja,this,I1 G,K5]
   ·cases h
  ·cases h
 ·cases h
def zcr{o v i n:Nat}{l:List AV}(h:Pg B o v i n=some l):l.length=n:=by
 unfold Pg at h;split at h
 ·split at h
  ·split at h
   ·exact (aj h).1
   ·cases h
  ·cases h
 ·cases h
section lists
variable {c : Cx}
def ARs.length:∀{l:List LV} {r:List AV},ARs c l r→l.length=r.length
 |_,_,.nil=>rfl
 |_,_,.cons _ es=>by simp[ARs.length es]
def ARs.get:∀{l:List LV} {r:List AV},ARs c l r→∀{i:Nat} {v:LV},l[i]?=some v→∃a,r[i]?=some a∧AR c v a
 |_,_,.nil,i,v,h=>Cj
 |_,_,.cons e es,0,v,h=>Dl
 |_,_,.cons e es,i+1,v,h=>by simp only[Is]at h ⊢;exact ARs.get es h
def ARs.append:∀{l:List LV} {r:List AV} {l':List LV} {r':List AV},ARs c l r→ARs c l' r'→ARs c (l++l') (r++r')
 |_,_,_,_,.nil,k=>k
 |_,_,_,_,.cons e es,k=>.cons e (ARs.append es k)
def ARs.drop:∀{l:List LV} {r:List AV},ARs c l r→∀n,ARs c (l.drop n) (r.drop n)
 |_,_,h,0=>h
 |_,_,.nil,_+1=>.nil
 |_,_,.cons _ es,n+1=>ARs.drop es n
def ARs.take:∀{l:List LV} {r:List AV},ARs c l r→∀n,ARs c (l.take n) (r.take n)
 |_,_,_,0=>.nil
 |_,_,.nil,_+1=>.nil
 |_,_,.cons e es,n+1=>.cons e (ARs.take es n)
def ARs.lay{l r:List LV}{l' r':List AV}(h:ARs c l l')(k:ARs c r r')(i:Nat):ARs c (Nh l i r) (Zc l' i r'):=by
 unfold Nh Zc;rw[k.length];exact ((h.take i).append k).append (h.drop _)
def z9a{l r:List LV}{i:Nat}(h:i+r.length≤l.length):(Nh l i r).length=l.length:=by
 unfold Nh;simp;omega
def ARs.rep{z:List LV}{z':List AV}(h:ARs c z z'):∀n,ARs c (Na z n) (Ry z' n)
 |0=>.nil
 |n+1=>h.append (ARs.rep h n)
def wj(g:List LV):∀n,(Na g n).length=n*g.length
 |0=>by simp[Na]
 |n+1=>by simp[Na,wj g n,I2];omega
end lists
def zu9(c:Cx){v:LV}(h:v.scal=true):AR c v (toA v):=by
 cases v<;>first|(cases h;done)|(unfold toA;constructor)
def kt(c:Cx):∀{l:List LV},l.all LV.scal=true→ARs c l (toAs l)
 |[],_=>by unfold toAs;exact .nil
 |v::l,h=>by
  simp only[Ke,H7]at h;unfold toAs;exact .cons (zu9 c h.1) (kt c h.2)
def Yy(c:Cx){v:LV}(h:v.cst=true):AR c v (toA v):=by
 unfold LV.cst at h;split at h
 ·unfold toA;exact .fn .nil .nil
 ·unfold toA;exact .agg (kt c h)
 ·unfold toA toAs;exact .tup .nil
 ·exact zu9 c h
def AR.cells{c:Cx}{v:LV}{a:AV}(h:AR c v a){l:List LV}(hl:v.cells=some l):∃l',a.cells=some l'∧ARs c l l':=by
 cases v with
 |any=>cases hl
 |tup _=>cases hl
 |agg l0=>cases hl;cases h with|agg h=>exact⟨_,rfl,h⟩
 |dy p k =>
  simp only[LV.cells,Option.some.injEq]at hl;subst hl;have h0:=h;refine⟨[a],?_,.cons h0 .nil⟩;cases h with|dy _ _ _ hs=>cases a<;>first|rfl|cases hs
 |vw p k lo len =>
  simp only[LV.cells,Option.some.injEq]at hl;subst hl;have h0:=h;refine⟨[a],?_,.cons h0 .nil⟩;cases h with|vw _ _ _ hs _=>cases a<;>first|rfl|cases hs
 |vf p k len =>
  simp only[LV.cells,Option.some.injEq]at hl;subst hl;have h0:=h;refine⟨[a],?_,.cons h0 .nil⟩;cases h with|vf _ _ _ hs=>cases a<;>first|rfl|cases hs
 |_ =>
  simp only[LV.cells,Option.some.injEq]at hl;subst hl;have h0:=h;refine⟨[a],?_,.cons h0 .nil⟩;cases h<;>rfl
def CxLe.refl(c:Cx):CxLe c c:=⟨λ_ k h e=>⟨k,h,e,Ie _,λ_=>rfl,λ_=>rfl⟩,λ_ h=>⟨h,rfl⟩⟩
def CxLe.trans{a b c:Cx}(h:CxLe a b)(k:CxLe b c):CxLe a c:=by
 refine⟨λp v x e=>?_,λo e=>?_⟩
 ·obtain⟨v1,x1,e1,l1,s1,f1⟩:=h.hd p v x e;obtain⟨v2,x2,e2,l2,s2,f2⟩:=k.hd p v1 x1 e1;refine⟨v2,x2,e2,I5 l1 l2,λq=>?_,λq=>?_⟩
  ·have q1:v=v1:=J
   have q2:v1=v2:=J
   rw[s1 q1,s2 q2]
  ·have q1:=f1 q;have:=s1 q1;subst this;rw[q1,f2 q]
 ·obtain⟨h1,h2⟩:=h.fz o e;obtain⟨h3,h4⟩:=k.fz o h1;exact⟨h3,h4.trans h2⟩
def CxLe.fix{c:Cx}(h:CxLe c vO){p k:Nat}{x:AV}(e:c.hd[p]?=some (k,x))(hf:V3 x=true):vO.hd[p]?=some (k,x):=by
 obtain⟨k',x',e',_,s,f⟩:=h.hd p k x e;have:=f hf;subst this;rw[s rfl];exact e'
mutual
def AR.mono{c c':Cx}(h:CxLe c c'):∀{v:LV} {a:AV},AR c v a→AR c' v a
 |_,_,.any a=>.any a
 |_,_,.bool b=>.bool b
 |_,_,.u x=>.u x
 |_,_,.b x=>.b x
 |_,_,.i n=>.i n
 |_,_,.int k n=>.int k n
 |_,_,.str l=>.str l
 |_,_,.nilPtr=>.nilPtr
 |_,_,.ptr e=>.ptr (h.fix e rfl)
 |_,_,.dptr hp hk ha=>by
  obtain⟨k2,h2,e2,l2,s2,_⟩:=h.hd _ _ _ hp;refine .dptr e2 (I5 hk l2) (λq=>?_);have q1:=ha J;rw[←s2 J];exact q1
 |_,_,.cptr hf hr hl=>.cptr (h.fz _ hf).1 (by rw[pd (h.fz _ hf).2];exact hr) (ARs.mono h hl)
 |_,_,.nilSl=>.nilSl
 |_,_,.dy hp hk ha hs=>by
  obtain⟨k2,h2,e2,l2,s2,_⟩:=h.hd _ _ _ hp;refine .dy e2 (I5 hk l2) (λq=>?_) hs;have q1:=ha J;rw[←s2 J];exact q1
 |_,_,.vw hp hk ha hs hz=>by
  obtain⟨k2,h2,e2,l2,s2,_⟩:=h.hd _ _ _ hp;refine .vw e2 (I5 hk l2) (λq=>?_) hs (λq=>?_)
  ·have q1:=ha J;rw[←s2 J];exact q1
  ·have q1:=hz J;rw[←s2 J];exact q1
 |_,_,.vf hp hk ha hs=>by
  obtain⟨k2,h2,e2,l2,s2,_⟩:=h.hd _ _ _ hp;refine .vf e2 (I5 hk l2) (λq=>?_) hs;have q1:=ha J;rw[←s2 J];exact q1
 |_,_,.lst hf gg hlen hr hl=>.lst (h.fz _ hf).1 gg hlen (by rw[pd (h.fz _ hf).2];exact hr) (ARs.mono h hl)
 |_,_,.lstNil=>.lstNil
 |_,_,.lstEmp=>.lstEmp
 |_,_,.nilMap=>.nilMap
 |_,_,.map e=>.map (h.fix e rfl)
 |_,_,.nilFn=>.nilFn
 |_,_,.fn hl hr=>.fn (ARs.mono h hl) (ARs.mono h hr)
 |_,_,.yield e=>.yield (h.fix e rfl)
 |_,_,.nilIf=>.nilIf
 |_,_,.iface e=>.iface (AR.mono h e)
 |_,_,.agg e=>.agg (ARs.mono h e)
 |_,_,.tup e=>.tup (ARs.mono h e)
def ARs.mono{c c':Cx}(h:CxLe c c'):∀{l:List LV} {r:List AV},ARs c l r→ARs c' l r
 |_,_,.nil=>.nil
 |_,_,.cons e es=>.cons (AR.mono h e) (ARs.mono h es)
end
def MRs.mono{c c':Cx}(h:CxLe c c'):∀{l:List (LV×LV×Nat)} {r:List (AV×AV×Nat)},MRs c l r→MRs c' l r
 |_,_,.nil=>.nil
 |_,_,.cons hk hv hs=>.cons (hk.mono h) (hv.mono h) (MRs.mono h hs)
def Nu.mono{c c':Cx}(h:CxLe c c'){ρ:My}{E:Tr AV}(k:Nu c ρ E):Nu c' ρ E:=λt=>(k t).mono h
def ku.mono{c c':Cx}(h:CxLe c c'){k:Nat}{x:AV}{ob:LObj}(hg:∀o,Nk x=some o→c'.H.get o=c.H.get o)(r:ku c k x ob):ku c' k x ob:=by
 cases ob with
 |dead st=>trivial
 |cells l st =>
  obtain⟨r0,o,t,l',rfl,r2,r3,r4⟩:=r;exact⟨r0,o,t,l',rfl,Cz,r3,r4.mono h⟩
 |dyn l len gB gC st =>
  obtain⟨r0,r1,r2⟩:=r;refine⟨r0,r1,?_⟩;rcases r2 with r2|⟨o,v,room,t,gg,l',rfl,r3,r4,r5,r6,r7⟩
  ·exact .inl r2
  ·exact .inr ⟨o,v,room,t,gg,l',rfl,by rw[hg o rfl];exact r3,r4,r5,r6.mono h,r7⟩
 |map es ck st =>
  obtain⟨r0,o,gj,rfl,r2,r3⟩:=r;exact⟨r0,o,gj,rfl,Cz,r3.mono h⟩
 |iter l pos =>
  obtain⟨r0,o,rfl,r2⟩:=r;exact⟨r0,o,rfl,Cz⟩
 |loop s pend f n ρ ps a b d =>
  obtain⟨r0,o,od,E,rfl,r2,r3,r4⟩:=r;exact⟨r0,o,od,E,rfl,h.fix r2 rfl,by rw[hg o rfl];exact r3,r4.mono h⟩
 |defd op =>
  obtain⟨r0,o,rfl,r2⟩:=r;exact⟨r0,o,rfl,Cz⟩
def Step.refl(c:Cx)(G:Mu):Step c G c G:=by
 refine⟨.refl c,Ie _,λ_ _ _=>rfl,λ_ h=>.inl h,λ_ h=>.inl h,λp ob gg e1 e2=>?_,λp ob gg k h o e1 e2 _ _ _ _=>?_⟩
 ·rw[e1]at e2;cases e2;exact Ie _
 ·rw[e1]at e2;cases e2;exact⟨rfl,rfl,rfl⟩
def Step.trans{c c1 c2:Cx}{G G1 G2:Mu}(h0:HSim c G)(h1:HSim c1 G1)(s1:Step c G c1 G1)(s2:Step c1 G1 c2 G2):Step c G c2 G2:=by
 have gB:∀p ob,G[p]?=some ob→∃gg,G1[p]?=some gg:=λp ob e=>by
  have hp:p<c.hd.length:=by rw[h0.len];exact (H5.1 e).1
  obtain⟨k,h,e3⟩:∃k h,c.hd[p]?=some (k,h):=⟨_,_,H8 hp⟩;obtain⟨k1,x1,q1,_,_,_⟩:=s1.le.hd p k h e3;have hp:p<G1.length:=by rw[←h1.len];exact (H5.1 q1).1
  exact⟨_,H8 hp⟩
 refine⟨s1.le.trans s2.le,I5 s1.nx s2.nx,λo ho hn=>?_,λo ho=>?_,λo ho=>?_,λp ob gj e1 e2=>?_,λp ob gj k h o e1 e2 e3 e4 hl he=>?_⟩
 ·rw[s2.frame o (Ix ho s1.nx) (λhc=>?_),s1.frame o ho hn];rcases s1.new o hc with h|h
  ·exact hn h
  ·omega
 ·rcases s2.new o ho with h|h
  ·exact s1.new o h
  ·exact .inr (I5 s1.nx h)
 ·rcases s2.fznew o ho with h|h|h
  ·exact s1.fznew o h
  ·rcases s1.new o h with h|h
   ·exact .inr (.inl h)
   ·exact .inr (.inr h)
  ·exact .inr (.inr (I5 s1.nx h))
 ·obtain⟨gg,q2⟩:=gB p ob e1;exact I5 (s1.mono p ob gg e1 q2) (s2.mono p gg gj q2 e2)
 ·obtain⟨gg,q2⟩:=gB p ob e1;have m1:=s1.mono p ob gg e1 q2;have m2:=s2.mono p gg gj q2 e2;obtain⟨rfl,r3,r4⟩:=s1.st p ob gg k h o e1 q2 e3 e4 hl J;obtain⟨rfl,r7,r8⟩:=s2.st p gg gj k h o q2 e2 (by rw[r4];exact e3) e4 hl J;rw[r7,r8,r3,r4];exact⟨rfl,rfl,rfl⟩
def HSim.push{c:Cx}{G:Mu}(hs:HSim c G){H':Heap}{x:AV}{ob:LObj}(gE:c.H.next≤H'.next)(gD:∀o,o<c.H.next→H'.get o=c.H.get o)(gF:∀o,Nk x=some o→c.H.next≤o∧o<H'.next)
  (gI:ku ⟨c.hd++[(0,x)],c.Fz,H'⟩ 0 x ob):HSim ⟨c.hd++[(0,x)],c.Fz,H'⟩ (G++[ob])∧Step c G ⟨c.hd++[(0,x)],c.Fz,H'⟩ (G++[ob])∧CxLe c ⟨c.hd++[(0,x)],c.Fz,H'⟩:=by
 have gH:∀(p k:Nat) (h:AV),c.hd[p]?=some (k,h)→(c.hd++[(0,x)])[p]?=some (k,h):=λp k h e=>by
  rw[Ib (H5.1 e).1];exact e
 have hle:CxLe c ⟨c.hd++[(0,x)],c.Fz,H'⟩:=⟨λp k h e=>⟨k,h,gH p k h e,Ie _,λ_=>rfl,λ_=>rfl⟩,λo ho=>⟨ho,gD o (hs.fz o ho)⟩⟩;have hinv:∀(p:Nat) (k:Nat) (h:AV) (gg:LObj),(c.hd++[(0,x)])[p]?=some (k,h)→(G++[ob])[p]?=some gg→(c.hd[p]?=some (k,h)∧G[p]?=some gg)∨(p=G.length∧k=0∧h=x∧gg=ob):=by
  intro p k h gg e1 e2;by_cases hp:p<G.length
  ·rw[Ib hp]at e2;rw[Ib (by rw[hs.len];exact hp)]at e1;exact .inl ⟨e1,e2⟩
  ·have gK:p=G.length:=by
    have:=(H5.1 e2).1;simp at this;omega
   subst gK;rw[Jf]at e2;rw[←hs.len,Jf]at e1;cases e1;cases e2;exact .inr ⟨rfl,rfl,rfl,rfl⟩
 have gB:∀o,Ot ⟨c.hd++[(0,x)],c.Fz,H'⟩ (G++[ob]) o→Ot c G o∨(c.H.next≤o∧o<H'.next):=by
  rintro o ⟨p,gg,k,h,e1,e2,e3,e4⟩;rcases hinv p k h gg e3 e1 with ⟨q1,q2⟩|⟨_,_,rfl,_⟩
  ·exact .inl ⟨p,gg,k,h,q2,e2,q1,e4⟩
  ·exact .inr (gF o e4)
 refine⟨⟨Dt,λo ho=>Ix (hs.fz o ho) gE,λo ho=>?_,λo ho hf=>?_,λp gg k h e1 e2=>?_,?_⟩,⟨hle,gE,λo ho _=>gD o ho,λo ho=>?_,λo ho=>.inl ho,λp gj gC e1 e2=>?_,λp gj gC k h o e1 e2 e3 e4 hl _=>?_⟩,hle⟩
 ·rcases gB o ho with h|h
  ·exact Ix (hs.lt o h) gE
  ·exact h.2
 ·rcases gB o ho with h|h
  ·exact hs.sep o h hf
  ·have:=hs.fz o hf;omega
 ·rcases hinv p k h gg e2 e1 with ⟨q1,q2⟩|⟨_,rfl,rfl,rfl⟩
  ·by_cases hl:gg.live=true
   ·exact (hs.obj p gg k h q2 q1).mono hle (λo ho=>gD o (hs.lt o ⟨p,gg,k,h,q2,hl,q1,ho⟩))
   ·cases gg<;>first|exact absurd rfl hl|trivial
  ·exact gI
 ·intro p q gj gC k h k' h' o e1 e2 e3 e4 e5 e6 e7 e8;rcases hinv p k h gj e5 e1 with ⟨q1,q2⟩|⟨r1,_,rfl,rfl⟩<;>rcases hinv q k' h' gC e6 e2 with ⟨q3,q4⟩|⟨r2,_,rfl,rfl⟩
  ·exact hs.excl p q gj gC k h k' h' o q2 q4 e3 e4 q1 q3 e7 e8
  ·have:=hs.lt o ⟨p,gj,k,h,q2,e3,q1,e7⟩;have:=gF o e8;omega
  ·have:=hs.lt o ⟨q,gC,k',h',q4,e4,q3,e8⟩;have:=gF o e7;omega
  ·omega
 ·rcases gB o ho with h|h
  ·exact .inl h
  ·exact .inr h.1
 ·rw[Ib (H5.1 e1).1,e1]at e2;cases e2;exact Ie _
 ·rw[Ib (H5.1 e1).1,e1]at e2;cases e2;have gG:gj.live=true:=by cases gj<;>first|rfl|cases hl
  exact⟨rfl,gD o (hs.lt o ⟨p,gj,k,h,e1,gG,e3,e4⟩),by rw[gH p k h e3,e3]⟩
def HSim.upd{c:Cx}{G:Mu}(hs:HSim c G){p k k':Nat}{x x':AV}{ob ob':LObj}{H':Heap}(hG:G[p]?=some ob)(hl:ob.live=true)(hp:c.hd[p]?=some (k,x))(gH:c.H.next≤H'.next)
  (gG:∀o,o<c.H.next→Nk x≠some o→H'.get o=c.H.get o) (gI:∀o,Nk x'=some o→(Nk x=some o∨c.H.next≤o)∧o<H'.next)
  (hk:k≤k') (hx:k=k'→x=x') (hf:V3 x=true→k=k') (gL:ob.st<ob'.st∨(ob.stp=false∧ob.st≤ob'.st))
  (gO:CxLe c ⟨c.hd.set p (k',x'),c.Fz,H'⟩→ku ⟨c.hd.set p (k',x'),c.Fz,H'⟩ k' x' ob') :
  HSim ⟨c.hd.set p (k',x'),c.Fz,H'⟩ (G.set p ob')∧Step c G ⟨c.hd.set p (k',x'),c.Fz,H'⟩ (G.set p ob')∧CxLe c ⟨c.hd.set p (k',x'),c.Fz,H'⟩:=by
 have gM:p<c.hd.length:=(H5.1 hp).1;have gK:p<G.length:=(H5.1 hG).1;have gB:∀o,Nk x=some o→Ot c G o:=λo ho=>⟨p,ob,k,x,hG,hl,hp,ho⟩
 have hle:CxLe c ⟨c.hd.set p (k',x'),c.Fz,H'⟩:=by
  refine⟨λq k1 h1 e=>?_,λo ho=>⟨ho,gG o (hs.fz o ho) (λq=>hs.sep o (gB o q) ho)⟩⟩;by_cases hq:q=p
  ·subst hq;rw[hp]at e;cases e;exact⟨k',x',by dsimp only;rw[Ia gM],hk,hx,hf⟩
  ·exact⟨k1,h1,by dsimp only;rw[H6 (Ne.symm hq)];exact e,Ie _,λ_=>rfl,λ_=>rfl⟩
 have hinv:∀(q:Nat) (k1:Nat) (h1:AV) (gg:LObj),(c.hd.set p (k',x'))[q]?=some (k1,h1)→(G.set p ob')[q]?=some gg→(q≠p∧c.hd[q]?=some (k1,h1)∧G[q]?=some gg)∨(q=p∧k1=k'∧h1=x'∧gg=ob'):=by
  intro q k1 h1 gg e1 e2;by_cases hq:q=p
  ·subst hq;rw[Ia gM]at e1;rw[Ia gK]at e2;cases e1;cases e2;exact .inr ⟨rfl,rfl,rfl,rfl⟩
  ·rw[H6 (Ne.symm hq)]at e1 e2;exact .inl ⟨hq,e1,e2⟩
 have gj:∀(q:Nat) (k1:Nat) (h1:AV) (gg:LObj) (o:Nat),q≠p→c.hd[q]?=some (k1,h1)→G[q]?=some gg→gg.live=true→Nk h1=some o→Nk x≠some o:=by
  intro q k1 h1 gg o hq e1 e2 e3 e4 e5;exact hq (hs.excl q p gg ob k1 h1 k x o e2 hG e3 hl e1 hp e4 e5)
 have gE:∀o,Ot ⟨c.hd.set p (k',x'),c.Fz,H'⟩ (G.set p ob') o→(Ot c G o∧o<c.H.next)∨(c.H.next≤o∧o<H'.next):=by
  rintro o ⟨q,gg,k1,h1,e1,e2,e3,e4⟩;rcases hinv q k1 h1 gg e3 e1 with ⟨_,q1,q2⟩|⟨_,_,rfl,_⟩
  ·have:=(⟨q,gg,k1,h1,q2,e2,q1,e4⟩:Ot c G o);exact .inl ⟨this,hs.lt o this⟩
  ·obtain⟨q1,q2⟩:=gI o e4;rcases q1 with q1|q1
   ·exact .inl ⟨gB o q1,hs.lt o (gB o q1)⟩
   ·exact .inr ⟨q1,q2⟩
 refine⟨⟨Dt,λo ho=>Ix (hs.fz o ho) gH,λo ho=>?_,λo ho hf=>?_,λq gg k1 h1 e1 e2=>?_,?_⟩,⟨hle,gH,λo ho hn=>gG o ho (λq=>hn (gB o q)),λo ho=>?_,λo ho=>.inl ho,λq gg gC e1 e2=>?_,λq gg gC k1 h1 o e1 e2 e3 e4 gF he=>?_⟩,hle⟩
 ·rcases gE o ho with h|h
  ·exact Ix h.2 gH
  ·exact h.2
 ·rcases gE o ho with h|h
  ·exact hs.sep o h.1 hf
  ·have:=hs.fz o hf;omega
 ·rcases hinv q k1 h1 gg e2 e1 with ⟨hq,q1,q2⟩|⟨_,rfl,rfl,rfl⟩
  ·by_cases gD:gg.live=true
   ·refine (hs.obj q gg k1 h1 q2 q1).mono hle (λo ho=>gG o (hs.lt o ⟨q,gg,k1,h1,q2,gD,q1,ho⟩) (gj q k1 h1 gg o hq q1 q2 gD ho))
   ·cases gg<;>first|exact absurd rfl gD|trivial
  ·exact gO hle
 ·intro q r gg gC k1 h1 k2 h2 o e1 e2 e3 e4 e5 e6 e7 e8;rcases hinv q k1 h1 gg e5 e1 with ⟨r0,q1,q2⟩|⟨r1,_,rfl,rfl⟩<;>rcases hinv r k2 h2 gC e6 e2 with ⟨r3,q3,q4⟩|⟨r2,_,rfl,rfl⟩
  ·exact hs.excl q r gg gC k1 h1 k2 h2 o q2 q4 e3 e4 q1 q3 e7 e8
  ·have h3:=hs.lt o ⟨q,gg,k1,h1,q2,e3,q1,e7⟩;rcases (gI o e8).1 with h|h
   ·exact absurd h (gj q k1 h1 gg o r0 q1 q2 e3 e7)
   ·omega
  ·have h3:=hs.lt o ⟨r,gC,k2,h2,q4,e4,q3,e8⟩;rcases (gI o e7).1 with h|h
   ·exact absurd h (gj r k2 h2 gC o r3 q3 q4 e4 e8)
   ·omega
  ·omega
 ·rcases gE o ho with h|h
  ·exact .inl h.1
  ·exact .inr h.1
 ·by_cases hq:q=p
  ·subst hq;rw[Ia gK]at e2;cases e2;rw[hG]at e1;cases e1;rcases gL with h|h
   ·exact Mm h
   ·exact h.2
  ·rw[H6 (Ne.symm hq),e1]at e2;cases e2;exact Ie _
 ·by_cases hq:q=p
  ·subst hq;rw[Ia gK]at e2;cases e2;rw[hG]at e1;cases e1;rcases gL with h|h
   ·omega
   ·rw[h.1]at gF;cases gF
  ·rw[H6 (Ne.symm hq),e1]at e2;cases e2;have gD:gg.live=true:=by cases gg<;>first|rfl|cases gF
   exact⟨rfl,gG o (hs.lt o ⟨q,gg,k1,h1,e1,gD,e3,e4⟩) (gj q k1 h1 gg o hq e3 e1 gD e4),by dsimp only;rw[H6 (Ne.symm hq)]⟩
end
section
def Vw(n:Int):Th .u64 n=n%18446744073709551616:=by
 rw[V7];rfl
def kx(n:Int):Th .u8 n=n%256:=by
 rw[V7];rfl
def V2{n:Int}(h:Q5 n):Th .i64 n=n:=by
 rw[V7];obtain⟨g,j⟩:=h;show (if (true&&decide (n%18446744073709551616 ≥ 9223372036854775808))=true then n%18446744073709551616-18446744073709551616 else n%18446744073709551616)=n;simp only[Kf,Ii];split<;>omega
def aq(a b:Int):fi a b=decide (a=b):=by
 rw[mc,Jj];simp
def S1(a b:Int):jn a b=decide (a<b):=ee a b
def jb(a b:Int):(!(decide (b<a)))=decide (a≤b):=by
 rw[Jj];simp
def ztc(x:UInt64):Nat.blt x.toNat (Tb .u64)=true:=by
 have:=x.toNat_lt;unfold Nat.blt;exact If (by show x.toNat+1≤2*9223372036854775808;omega)
def Ya(x:UInt8):Nat.blt x.toNat (Tb .u8)=true:=by
 have:=x.toNat_lt;unfold Nat.blt;exact If (by show x.toNat+1≤2*128;omega)
variable {c : Cx} {K : LV → Prop}
def AR.u'{x:UInt64}{n:Int}(h:n=Int.ofNat x.toNat):AR c (.u x) (.int .u64 n):=by subst h;exact .u x
def AR.b'{x:UInt8}{n:Int}(h:n=Int.ofNat x.toNat):AR c (.b x) (.int .u8 n):=by subst h;exact .b x
def AR.bool'{x y:Bool}(h:y=x):AR c (.bool x) (.bool y):=by subst h;exact .bool y
def zjk(a b:UInt64):decide (Int.ofNat a.toNat=Int.ofNat b.toNat)=decide (a=b):=by
 rw[Jj];simp only[Ii];constructor
 ·intro h;exact Jm.1 (Int.ofNat.inj h)
 ·intro h;rw[h]
def zf2(a b:UInt64):decide (Int.ofNat a.toNat<Int.ofNat b.toNat)=decide (a<b):=by
 rw[Jj];simp only[Ii,Ll];exact Int.ofNat_lt
def zq0(a b:UInt64):decide (Int.ofNat a.toNat≤Int.ofNat b.toNat)=decide (a≤b):=by
 rw[Jj];simp only[Ii,UInt64.le_iff_toNat_le];exact Int.ofNat_le
def zq3(a b:UInt8):decide (Int.ofNat a.toNat=Int.ofNat b.toNat)=decide (a=b):=by
 rw[Jj];simp only[Ii];constructor
 ·intro h;exact UInt8.toNat_inj.1 (Int.ofNat.inj h)
 ·intro h;rw[h]
def zpm(a b:UInt8):decide (Int.ofNat a.toNat<Int.ofNat b.toNat)=decide (a<b):=by
 rw[Jj];simp only[Ii,UInt8.lt_iff_toNat_lt];exact Int.ofNat_lt
def zpe(a b:UInt8):decide (Int.ofNat a.toNat≤Int.ofNat b.toNat)=decide (a≤b):=by
 rw[Jj];simp only[Ii,UInt8.le_iff_toNat_le];exact Int.ofNat_le
def Qp(c:Cx)(K:LV→Prop)(r:Option AV):Prop:=∃v a,r=some a∧AR c v a∧K v
def Qp.mk{v:LV}{a:AV}(h:AR c v a)(k:K v):Qp c K (some a):=⟨v,a,rfl,h,k⟩
def jm(a:UInt64)(s:Nat):Th .u64 (.ofNat (Nat.mul a.toNat (Nat.pow 2 (Pb s (IntKind.bits .u64)))))=Int.ofNat (Zo a s).toNat:=by
 rw[Vw];have hm:Pb s (IntKind.bits .u64)=min s 64:=by
  unfold Pb;by_cases h:s≤64
  ·rw[show Nat.ble s (IntKind.bits .u64)=true from If h];simp[Jr h]
  ·have:Nat.ble s (IntKind.bits .u64)=false:=by
    cases g:Nat.ble s (IntKind.bits .u64) with
    |false=>rfl
    |true=>exact absurd (Ik g) h
   rw[this];simp only[IntKind.bits];omega
 rw[hm];rw[gl,Jq];show (Int.ofNat (a.toNat*2^min s 64))%18446744073709551616=Int.ofNat (a.toNat*2^s%2^64);by_cases h:s≤64
 ·rw[Jr h];rfl
 ·rw[Nat.min_eq_right J];have e:2^s=2^64*2^(s-64):=by rw[←Nat.pow_add];congr 1;omega
  have:a.toNat*2^s%2^64=0:=by
   rw[e,←Nat.mul_assoc,Ml a.toNat,Nat.mul_assoc,Nat.mul_mod_right]
  rw[this];have j:a.toNat*2^64%2^64=0:=Nat.mul_mod_left _ _;show Int.ofNat (a.toNat*2^64%2^64)=0;rw[j];rfl
def ju(a:UInt64)(s:Nat):Int.ofNat (Nat.div a.toNat (Nat.pow 2 (Pb s (IntKind.bits .u64))))=Int.ofNat (P9 a s).toNat:=by
 have hm:Pb s (IntKind.bits .u64)=min s 64:=by
  unfold Pb;by_cases h:s≤64
  ·rw[show Nat.ble s (IntKind.bits .u64)=true from If h];simp[Jr h]
  ·have:Nat.ble s (IntKind.bits .u64)=false:=by
    cases j:Nat.ble s (IntKind.bits .u64) with
    |false=>rfl
    |true=>exact absurd (Ik j) h
   rw[this];simp only[IntKind.bits];omega
 rw[hm];rw[zoh,Jq];have g:=a.toNat_lt;show Int.ofNat (a.toNat/2^min s 64)=Int.ofNat (a.toNat/2^s%2^64);have z:a.toNat/2^s%2^64=a.toNat/2^s:=Kb (Nat.lt_of_le_of_lt (Nat.div_le_self _ _) g);rw[z];by_cases h:s≤64
 ·rw[Jr h]
 ·rw[Nat.min_eq_right J,Nat.div_eq_of_lt g];rw[Nat.div_eq_of_lt (Ix g (Mc J J))]
def rk{op:BinOp}{t:TypeId}{a b:UInt64}(h:Vf op a b K):Qp c K (Ou z op L t (.int .u64 (Int.ofNat a.toNat)) (.int .u64 (Int.ofNat b.toNat))):=by
 have E:Ve .u64 .u64=true:=rfl;have j:=a.toNat_lt;have g:=b.toNat_lt;cases op<;>simp only[Vf,zk8,zov,zj3,cy,cz,zvg,qq,gu,zsv]at h<;>simp only[Ou,E,sy,Wo,zn2,ztc]
 case add=>exact .mk (.u' (by rw[Vw,UInt64.toNat_add];rfl)) h
 case sub =>
  refine .mk (.u' ?_) h;rw[Vw,UInt64.toNat_sub];show (Int.ofNat a.toNat-Int.ofNat b.toNat)%_=((2^64-b.toNat+a.toNat)%2^64:Nat);simp only[It];omega
 case mul=>exact .mk (.u' (by rw[Vw,UInt64.toNat_mul];rfl)) h
 case quo =>
  obtain⟨B,C⟩:=h;have D:Wy (Int.ofNat b.toNat)=false:=by
   unfold Wy;cases A:Nat.beq b.toNat 0 with
   |false=>exact A
   |true=>exact absurd (Jm.1 (Ic A)) B
  simp only[D];refine .mk (.u' ?_) C;rw[Vw,UInt64.toNat_div];show (Int.tdiv (Int.ofNat a.toNat) (Int.ofNat b.toNat))%_=Int.ofNat (a.toNat/b.toNat);have:Int.tdiv (Int.ofNat a.toNat) (Int.ofNat b.toNat)=Int.ofNat (a.toNat/b.toNat):=rfl;rw[this];exact J7 (Jo _) (by have:=Nat.div_le_self a.toNat b.toNat;simp only[It];omega)
 case rem =>
  obtain⟨B,C⟩:=h;have D:Wy (Int.ofNat b.toNat)=false:=by
   unfold Wy;cases A:Nat.beq b.toNat 0 with
   |false=>exact A
   |true=>exact absurd (Jm.1 (Ic A)) B
  simp only[D];exact .mk (.u' (by rw[UInt64.toNat_mod];rfl)) C
 case and =>
  refine .mk (.u' ?_) h;rw[Vw,UInt64.toNat_and];have:a.toNat &&& b.toNat<2^64:=Nat.and_lt_two_pow _ g;exact J7 (Jo _) C5
 case or =>
  refine .mk (.u' ?_) h;rw[Vw,UInt64.toNat_or];have:a.toNat ||| b.toNat<2^64:=Nat.or_lt_two_pow j g
  exact J7 (Jo _) C4
 case xor =>
  refine .mk (.u' ?_) h;rw[Vw,UInt64.toNat_xor];have:a.toNat ^^^ b.toNat<2^64:=Nat.xor_lt_two_pow j g;exact J7 (Jo _) (by show Int.ofNat (a.toNat ^^^ b.toNat)<_;simp only[It];omega)
 case andNot =>
  refine .mk (.u' ?_) h;have e:Nat.xor a.toNat (Nat.land a.toNat b.toNat)=(a &&& ~~~b).toNat:=by
   show a.toNat ^^^ (a.toNat &&& b.toNat)=_;rw[UInt64.toNat_and,UInt64.toNat_not];refine Nat.eq_of_testBit_eq λi=>?_
   rw[Nat.testBit_xor,Nat.testBit_and,Nat.testBit_and];have:(UInt64.size-1-b.toNat).testBit i=(decide (i<64) && !b.toNat.testBit i):=by
    have:=Nat.testBit_two_pow_sub_succ g i;rw[show UInt64.size-1-b.toNat=2^64-(b.toNat+1) from by show 18446744073709551616-1-b.toNat=_;omega,this]
   rw[this];by_cases hi:i<64
   ·simp[hi];cases a.toNat.testBit i<;>cases b.toNat.testBit i<;>rfl
   ·have:a.toNat.testBit i=false:=Nat.testBit_lt_two_pow (Ix j (Mc J J));simp[this]
  rw[e,Vw];exact J7 (Jo _) (by have:=(a &&& ~~~b).toNat_lt;simp only[It];omega)
 case shl=>exact .mk (.u' (jm a b.toNat)) h
 case shr=>exact .mk (.u' (ju a b.toNat)) h
 case eql=>exact .mk (.bool' (by rw[aq,zjk])) h
 case neq=>exact .mk (.bool' (by rw[aq,zjk];simp)) h
 case lss=>exact .mk (.bool' (by rw[S1,zf2])) h
 case leq=>exact .mk (.bool' (by rw[S1,jb,zq0])) h
 case gtr=>exact .mk (.bool' (by rw[S1,zf2])) h
 case geq=>exact .mk (.bool' (by rw[S1,jb,zq0])) h
def td{op:BinOp}{t:TypeId}{a b:UInt8}(h:bbL op a b K):Qp c K (Ou z op L t (.int .u8 (Int.ofNat a.toNat)) (.int .u8 (Int.ofNat b.toNat))):=by
 have A:Ve .u8 .u8=true:=rfl;have j:=a.toNat_lt;have g:=b.toNat_lt;cases op<;>simp only[bbL,io,eh,gy,s8]at h<;>simp only[Ou,A,sy,Wo,Ya]
 case add=>exact .mk (.b' (by rw[kx,UInt8.toNat_add];rfl)) h
 case sub =>
  refine .mk (.b' ?_) h;rw[kx,UInt8.toNat_sub];show (Int.ofNat a.toNat-Int.ofNat b.toNat)%_=((2^8-b.toNat+a.toNat)%2^8:Nat);simp only[It];omega
 case and =>
  refine .mk (.b' ?_) h;rw[kx,UInt8.toNat_and];have:a.toNat &&& b.toNat<2^8:=Nat.and_lt_two_pow _ g;exact J7 (Jo _) C5
 case or =>
  refine .mk (.b' ?_) h;rw[kx,UInt8.toNat_or];have:a.toNat ||| b.toNat<2^8:=Nat.or_lt_two_pow j g
  exact J7 (Jo _) C4
 case eql=>exact .mk (.bool' (by rw[aq,zq3])) h
 case neq=>exact .mk (.bool' (by rw[aq,zq3];simp)) h
 case lss=>exact .mk (.bool' (by rw[S1,zpm])) h
 case leq=>exact .mk (.bool' (by rw[S1,jb,zpe])) h
 case gtr=>exact .mk (.bool' (by rw[S1,zpm])) h
 case geq=>exact .mk (.bool' (by rw[S1,jb,zpe])) h
def AR.i'{x n:Int}(h:n=x):AR c (.i x) (.int .i64 n):=by subst h;exact .i n
def zmx{b:Int}(h:b≠0):Wy b=false:=by
 unfold Wy;split
 ·rename_i n;cases g:Nat.beq n 0 with
  |false=>rfl
  |true=>exact absurd (by rw[Ic g];rfl) h
 ·rfl
def zk2{t:TypeId}{a:Int}{k:IntKind}{s:Int}(g:0≤a)(j:0≤s)(A:s≤64) :
  Ou z .shl L t (.int .i64 a) (.int k s)=some (.int .i64 (Th .i64 (a*2^s.toNat)))∧Ou z .shr L t (.int .i64 a) (.int k s)=some (.int .i64 (a/2^s.toNat)):=by
 obtain⟨x,rfl⟩:=Ip g;obtain⟨y,rfl⟩:=Ip j;have hm:Pb y (IntKind.bits .i64)=y:=by
  unfold Pb;rw[show Nat.ble y (IntKind.bits .i64)=true from If (by simp only[IntKind.bits];omega)]
 constructor
 ·show some (AV.int .i64 (Th .i64 (.ofNat (Nat.mul x (Nat.pow 2 (Pb y (IntKind.bits .i64)))))))=_;rw[hm]
  congr 3
 ·show some (AV.int .i64 (.ofNat (Nat.div x (Nat.pow 2 (Pb y (IntKind.bits .i64))))))=_;rw[hm]
  congr 2
def sb{op:BinOp}{t:TypeId}{a b:Int}(h:Uh op a b K):Qp c K (Ou z op L t (.int .i64 a) (.int .i64 b)):=by
 have G:Ve .i64 .i64=true:=rfl;cases op<;>simp only[Uh]at h
 case shl =>
  obtain⟨g,B,j,C,A⟩:=h;rw[(zk2 g B j).1,V2 C];exact .mk (.i _) A
 case shr =>
  obtain⟨g,B,j,A⟩:=h;rw[(zk2 g B j).2];exact .mk (.i _) A
 all_goals simp only[Ou,G,sy]
 case and =>
  obtain⟨g,B,j,C,A⟩:=h;obtain⟨x,rfl⟩:=Ip g;obtain⟨y,rfl⟩:=Ip j;have D:Nat.blt x (Tb .i64)=true:=by unfold Nat.blt;exact If Fg
  have E:Nat.blt y (Tb .i64)=true:=by unfold Nat.blt;exact If Ff
  have F:x &&& y<2^63:=Nat.and_lt_two_pow _ J;show Qp c K (Wo Nat.land .i64 (.ofNat x) (.ofNat y));simp only[Wo,D,E];exact .mk (.i' (V2 ⟨Ca,Fe⟩)) A
 case or =>
  obtain⟨g,B,j,C,A⟩:=h;obtain⟨x,rfl⟩:=Ip g;obtain⟨y,rfl⟩:=Ip j;have D:Nat.blt x (Tb .i64)=true:=by unfold Nat.blt;exact If Fg
  have E:Nat.blt y (Tb .i64)=true:=by unfold Nat.blt;exact If Ff
  have F:x ||| y<2^63:=Nat.or_lt_two_pow J J
  show Qp c K (Wo Nat.lor .i64 (.ofNat x) (.ofNat y));simp only[Wo,D,E];exact .mk (.i' (V2 ⟨Ca,Fe⟩)) A
 case add=>exact .mk (.i' (V2 h.1)) h.2
 case sub=>exact .mk (.i' (V2 h.1)) h.2
 case mul=>exact .mk (.i' (V2 h.1)) h.2
 case quo=>rw[zmx h.1];exact .mk (.i' (V2 h.2.1)) h.2.2
 case rem=>rw[zmx h.1];exact .mk (.i _) h.2
 case eql=>exact .mk (.bool' (by rw[aq])) h
 case neq=>exact .mk (.bool' (by rw[aq];simp)) h
 case lss=>exact .mk (.bool' (by rw[S1])) h
 case leq=>exact .mk (.bool' (by rw[S1,jb])) h
 case gtr=>exact .mk (.bool' (by rw[S1])) h
 case geq=>exact .mk (.bool' (by rw[S1,jb])) h
def rp{op:BinOp}{t:TypeId}{k:IntKind}{a b:Int}(h:kkL op a b K):Qp c K (Ou z op L t (.int k a) (.int k b)):=by
 have g:Ve k k=true:=by cases k<;>rfl
 cases op<;>simp only[kkL]at h<;>simp only[Ou,g,sy]
 case eql=>exact .mk (.bool' (by rw[aq])) h
 case neq=>exact .mk (.bool' (by rw[aq];simp)) h
 case lss=>exact .mk (.bool' (by rw[S1])) h
 case leq=>exact .mk (.bool' (by rw[S1,jb])) h
 case gtr=>exact .mk (.bool' (by rw[S1])) h
 case geq=>exact .mk (.bool' (by rw[S1,jb])) h
def zuh(a b:List UInt8):(Nat.beq a.length b.length&&Nat.beq (Oh a) (Oh b))=decide (a=b):=by
 rw[Jj];simp only[H7,Ii];constructor
 ·rintro⟨g,j⟩;exact packL_inj (Ic g) (Ic j)
 ·intro h;subst h;simp
def AR.str'{l:List UInt8}{n m:Nat}(h1:n=l.length)(h2:m=Oh l):AR c (.str l) (.str n m):=by subst h1 h2;exact .str l
def sw{op:BinOp}{t:TypeId}{a b:List UInt8}(h:ssL op a b K):Qp c K (Ou z op L t (.str a.length (Oh a)) (.str b.length (Oh b))):=by
 cases op<;>simp only[ssL]at h<;>simp only[Ou,uj]
 case add =>
  have g:Nat.ble (Nat.add a.length b.length) M8=true:=If h.1;simp only[g];refine .mk (.str' N ?_) h.2;rw[packL_append];rfl
 case eql=>exact .mk (.bool' (zuh a b)) h
 case neq=>exact .mk (.bool' (by rw[zuh];simp)) h
def znn{op:BinOp}{t:TypeId}{a b:AV}{r:Bool}(g:Ou z op L t a b=match op with | .eql=>mp (Qo z L t a b) | .neq=>py (Qo z L t a b)|_=>none)(h:Vx z op L t a b r K):Qp c K (Ou z op L t a b):=by
 rw[g];cases op<;>simp only[Vx]at h
 case eql=>rw[h.1];exact .mk (.bool _) h.2
 case neq=>rw[h.1];exact .mk (.bool _) h.2
end
section
noncomputable def ρA(g:Tr AV):Yh:=λt=>Mz (M6 t) g
def znw(g:Tr AV):S9 g (ρA g):=λ_ _=>rfl
def N5{c:Cx}{j:My}(g:Nu c j I){x:Lx}(h:x.ok=true):AR c (x.ev j) (x.r.ev (ρA I)):=by
 cases x with
 |t i=>exact g i
 |c v=>exact Yy c h
def zqn{c:Cx}{j:My}{z:Tr AV}(g:Nu c j z):∀{l:List Lx},l.all Lx.ok=true→ARs c (l.map (·.ev j)) ((dt l).map (·.ev (ρA z)))
 |[],_=>.nil
 |x::l,h=>by
  simp only[Ke,H7]at h;exact .cons (N5 g h.1) (zqn g h.2)
def br:Option Lx→Bool
 |none=>true
 |some x=>x.ok
def LOp.ok:LOp→Bool
 |.move x=>x.ok
 |.pick c a b=>c.ok&&a.ok&&b.ok
 |.alloc l=>l.all LV.scal
 |.box x=>x.ok
 |.build cs ps=>cs.all LV.scal&&ps.all (·.2.2.ok)
 |.buildSl _ _ cs ps=>cs.all LV.scal&&ps.all (·.2.2.ok)
 |.load1 x=>x.ok
 |.loadN _ x=>x.ok
 |.store _ x y=>x.ok&&y.ok
 |.nilChk x=>x.ok
 |.bin _ _ _ x y=>x.ok&&y.ok
 |.un _ x=>x.ok
 |.cvInt _ x=>x.ok
 |.cvStr x=>x.ok
 |.cvSame x=>x.ok
 |.cvBytes x=>x.ok
 |.mkFunc _ a b=>a.all Lx.ok&&b.all Lx.ok
 |.mkSl _ z l c=>z.all LV.scal&&l.ok&&c.ok
 |.slStr x lo hi=>x.ok&&br lo&&br hi
 |.slSl _ x lo hi=>x.ok&&br lo&&br hi
 |.slSl3 _ x lo hi mx=>x.ok&&br lo&&br hi&&mx.ok
 |.fieldAddr _ x=>x.ok
 |.field _ _ _ x=>x.ok
 |.ixAddr _ x i=>x.ok&&i.ok
 |.ixStr x i=>x.ok&&i.ok
 |.extract _ x=>x.ok
 |.lenStr x=>x.ok
 |.lenSl x=>x.ok
 |.maxi _ x y=>x.ok&&y.ok
 |.max3 _ x y z=>x.ok&&y.ok&&z.ok
 |.ixAddrArr _ _ x i=>x.ok&&i.ok
 |.ixArr _ _ _ x i=>x.ok&&i.ok
 |.lenArr _ x=>x.ok
 |.appZ _ z s x=>z.all LV.scal&&s.ok&&x.ok
 |.appG _ s x=>s.ok&&x.ok
 |.copy _ d x=>d.ok&&x.ok
 |.clear _ z x=>z.all LV.scal&&x.ok
 |.mkMap0=>true
 |.mkMap1 x=>x.ok
 |.lookup _ z _ x i=>z.cst&&x.ok&&i.ok
 |.mapUpd _ m k v=>m.ok&&k.ok&&v.ok
 |.lenMap x=>x.ok
 |.slArr _ _ x lo hi=>x.ok&&br lo&&br hi
 |.callV f args=>f.ok&&args.all Lx.ok
def Qu(P:Program)(c:Cx)(G:Mu)(K:LV→Mu→Prop):OR→Prop
 |.no=>False
 |.val B C=>∃z v A,z.H=C∧HSim z A∧Step c G z A∧AR z v B∧K v A
 |.call D j=>∃t g,se c t D∧ARs c g j∧Pz P t g G K
section res
variable {P : Program} {c : Cx} {G : Mu} {K : LV → Mu → Prop}
def Qu.same(hs:HSim c G){v:LV}{a:AV}(h:AR c v a)(k:K v G):Qu P c G K (.val a c.H):=⟨c,v,G,rfl,hs,.refl c G,h,k⟩
def Qu.ret(hs:HSim c G){r:Option AV}(h:Qp c (λv=>K v G) r):Qu P c G K (ret1 c.H r):=by
 obtain⟨v,a,rfl,h1,h2⟩:=h;exact .same hs h1 h2
def zci(c:Cx)(g:List AV) :
  ∃H',newObj c.H g=some (c.H.next,H')∧H'.next=c.H.next+1∧(∀o,o<c.H.next→H'.get o=c.H.get o)∧H'.get c.H.next=some (.cells (O8 g 0 .e) g.length 0 false) :=
 ⟨_,rfl,rfl,λ_ j=>Heap.get_push_ne _ _ j,Heap.get_push_same _ _⟩
def zii(j:HSim c G){l:List LV}{g:List AV}(h:ARs c l g)(k:K (.ptr G.length 0) (G++[.cells l 0])):Qu P c G K (Uq c.H g):=by
 obtain⟨A,D,I,B,E⟩:=zci c g;unfold Uq;rw[D];have z:CxLe c ⟨c.hd++[(0,.ptr c.H.next 0 0)],c.Fz,A⟩:=⟨λp k x e=>⟨k,x,Dx,Ie _,λ_=>rfl,λ_=>rfl⟩,λo C=>⟨C,B o (j.fz o C)⟩⟩;obtain⟨F,H,_⟩:=j.push (H':=A) (x:=.ptr c.H.next 0 0) (ob:=.cells l 0) J B (λo e=>by cases e;omega)
  ⟨rfl,c.H.next,_,g,rfl,by rw[h.length];exact E,by rw[h.length];exact jq g,h.mono z⟩
 exact⟨_,.ptr G.length 0,_,rfl,F,H,.ptr (by rw[←j.len];exact Jf),k⟩
def d8(z:HSim c G){l:List LV}{g:List AV}{len esz:Nat}{room:Option Nat}(h:ARs c l g)(B:l.length=len*esz)(E:∀r,room=some r→r=len)(k:K (.dy G.length 0) (G++[.dyn l len esz 0 0])) :
  Qu P c G K (match newObj c.H g with
   |some (o,H')=>.val (.sl o 0 0 len esz room) H'
   |none=>.no):=by
 obtain⟨H',F,M,C,H⟩:=zci c g;rw[F];have A:CxLe c ⟨c.hd++[(0,.sl c.H.next 0 0 len esz room)],c.Fz,H'⟩:=⟨λp k x e=>⟨k,x,Dx,Ie _,λ_=>rfl,λ_=>rfl⟩,λo D=>⟨D,C o (z.fz o D)⟩⟩;have j:g.length=len*esz:=by rw[←h.length];exact B
 obtain⟨I,L,_⟩:=z.push (H':=H') (x:=.sl c.H.next 0 0 len esz room) (ob:=.dyn l len esz 0 0) J C (λo e=>by cases e;omega)
  ⟨rfl,B,.inr ⟨c.H.next,0,room,_,g.length,g,rfl,H,J,by rw[←j];exact jq g,h.mono A,λr e=>by rw[E r e];exact⟨j,Ie _⟩,λ_=>j⟩⟩
 exact⟨_,.dy G.length 0,_,rfl,I,L,.dy (h:=.sl c.H.next 0 0 len esz room) (by rw[←z.len];exact Jf) (Ie _) (λ_=>rfl) rfl,k⟩
def zji(z:HSim c G){p o st:Nat}{l:List LV}(A:G[p]?=some (.cells l st))(e:c.hd[p]?=some (0,.ptr o 0 0)) :
  ∃t g,c.H.get o=some (.cells t l.length 0 false)∧Rb t 0 l.length=some g∧ARs c l g:=by
 obtain⟨_,E,t,g,j,B,C,D⟩:=z.obj p _ _ _ A e;injection j with j
 subst j;exact⟨t,g,B,C,D⟩
def Yo(E:HSim c G){p k o v len esz st:Nat}{room:Option Nat}{l:List LV}(F:G[p]?=some (.dyn l len esz D st))(e:c.hd[p]?=some (k,.sl o v 0 g j room)) :
  k=D∧l.length=len*esz∧g=len∧j=esz∧∃t z A,c.H.get o=some (.cells t z v false)∧len*esz≤z∧Rb t 0 (len*esz)=some A∧ARs c l A ∧
   (∀r,room=some r→z=r*esz∧len≤r)∧(room=none→z=len*esz):=by
 obtain⟨H,I,B⟩:=E.obj p _ _ _ F e;rcases B with ⟨B,_⟩|⟨o',v',C,t,z,A,L,M,O,Q,R,S,T⟩
 ·cases B
 ·injection L with U V e3 X Y Z
  subst U V X Y Z;exact⟨H,I,rfl,rfl,t,z,A,M,O,Q,R,S,T⟩
def zkg(B:HSim c G){x:LV}{a:AV}{n:Nat}{K:List LV→Prop}(C:AR c x a)(h:Ud G x n K):∃o v i j l,a=.ptr o v i∧Pg c.H o v i n=some j∧ARs c l j∧K l:=by
 unfold Ud at h;split at h
 ·rename_i p i;split at h
  ·rename_i l st z;obtain⟨A,g⟩:=h;cases C with
   | @ptr _ _ o e =>
    obtain⟨t,j,O,D,E⟩:=zji B z e;exact⟨o,0,i,_,_,rfl,Tf O D (Ie _) A,(E.drop i).take n,g⟩
  ·exact h.elim
 ·rename_i p k i;split at h
  ·rename_i l len Q R st z;obtain⟨S,A,g⟩:=h;cases C with
   | @dptr _ _ _ k' o v gg hh e hk T =>
    have U:=(B.obj p _ _ _ z e).1;obtain⟨V,I,L,F,H⟩:=T J;subst H V;obtain⟨_,r1,_,_,t,M,j,D,E,X,Y,_⟩:=Yo B z e;exact⟨o,v,gg,_,_,rfl,Tf D X E J,(Y.drop gg).take n,g⟩
  ·exact h.elim
 ·rename_i l i;obtain⟨A,g⟩:=h;cases C with
  |cptr hf Z hl=>exact⟨_,_,_,_,_,rfl,zic Z A,(hl.drop i).take n,g⟩
 ·exact h.elim
def zpy(B:HSim c G){x:LV}{a:AV}{K:LV→Prop}(C:AR c x a)(h:Ui G x K):∃o v i w b,a=.ptr o v i∧Pg c.H o v i 1=some [b]∧AR c w b∧K w:=by
 have g:∀{l:List LV} {i:Nat} {v:LV},l[i]?=some v→i+1≤l.length∧(l.drop i).take 1=[v]:=λ{l i v} e=>by
  obtain⟨j,z⟩:=H5.1 e;refine⟨j,?_⟩;rw[Iw j,z];simp
 have A:Ud G x 1 (λl=>∃v,l=[v]∧K v):=by
  unfold Ui at h;unfold Ud;split at h
  ·split at h
   ·obtain⟨v,j,z⟩:=h;exact⟨(g j).1,v,(g j).2,z⟩
   ·exact h.elim
  ·split at h
   ·obtain⟨D,v,j,z⟩:=h;exact⟨D,(g j).1,v,(g j).2,z⟩
   ·exact h.elim
  ·obtain⟨v,j,z⟩:=h;exact⟨(g j).1,v,(g j).2,z⟩
  ·exact h.elim
 obtain⟨o,v,i,M,l,E,F,H,w,rfl,I⟩:=zkg B C A;cases H with
 |cons e L=>cases L;exact⟨o,v,i,w,_,E,F,e,I⟩
def zi5{o v i:Nat}{t:Tr AV}{l r:List AV}(z:B.get o=some (.cells t j v false))(_:Rb t 0 g=some l)(D:g≤j)(A:i+r.length≤g) :
  T7 B o v i r=some (B.put o (.cells (O8 r i t) j v false)):=by
 unfold T7;rw[z];have C:Nat.ble (Nat.add i r.length) j=true:=If (by show i+r.length≤j;omega);simp only[I0,C]
def zq4{g:Type}:∀{l:List g} {p:Nat} {a:g},l[p]?=some a→l.set p a=l
 |[],_,_,h=>Cj
 |x::l,0,a,h=>by simp at h;subst h;rfl
 |x::l,p+1,a,h=>by simp at h;simp[zq4 h]
def z9q(D:HSim c G){x:LV}{a:AV}{l:List LV}{g:List AV}{K:Mu→Prop}(hx:AR c x a)(Q:ARs c l g)(h:Tn G x l K) :
  ∃o v i H' R S,a=.ptr o v i∧T7 c.H o v i g=some H'∧R.H=H'∧HSim R S∧Step c G R S∧K S:=by
 have gE:=Q.length;unfold Tn at h;split at h
 ·rename_i p i;split at h
  ·rename_i I st j;obtain⟨L,T⟩:=h;cases hx with
   | @ptr _ _ o e =>
    obtain⟨t,E,r2,M,O⟩:=zji D j e;have hw:=zi5 (i:=i) (r:=g) r2 M (Ie _) J;obtain⟨U,V,_⟩:=D.upd (k':=0) (x':=.ptr o 0 0) (ob':=.cells (Nh I i l) (st+1)) (H':=c.H.put o (.cells (O8 g i t) I.length 0 false)) j rfl e (Ie _)
     (λX _ F=>Heap.get_put_ne _ _ (λq=>F Em)) (λX Y=>by cases Y;exact⟨.inl rfl,D.lt o ⟨p,_,_,_,j,rfl,e,rfl⟩⟩) (Ie _) (λ_=>rfl) (λ_=>rfl) (.inl (Jb _))
     (λH=>⟨rfl,o,_,Zc E i g,rfl,by rw[z9a L];exact Heap.get_put_same _ _ _,by rw[z9a L];exact ze5 M J,(O.lay Q i).mono H⟩)
    exact⟨o,0,i,_,_,_,rfl,hw,rfl,U,V,T⟩
  ·exact h.elim
 ·rename_i p k i;split at h
  ·rename_i I len gF Z st j;obtain⟨gG,L,T⟩:=h;cases hx with
   | @dptr _ _ _ k' o v gD hh e hk ha =>
    have gH:=(D.obj p _ _ _ j e).1;obtain⟨hj,z,A,B,gg⟩:=ha J;subst gg hj;obtain⟨gj,r1,gB,gC,t,C,E,M,O,r5,r6,r7,r8⟩:=Yo D j e;subst gB gC;have hw:=zi5 (i:=gD) (r:=g) M r5 O J;obtain⟨U,V,_⟩:=D.upd (k':=k') (x':=.sl o v 0 z A B) (ob':=.dyn (Nh I gD l) z A Z (st+1)) (H':=c.H.put o (.cells (O8 g gD t) C v false)) j rfl e (Ie _)
     (λX _ F=>Heap.get_put_ne _ _ (λq=>F Em)) (λX Y=>by cases Y;exact⟨.inl rfl,D.lt _ ⟨p,_,_,_,j,rfl,e,rfl⟩⟩) (Ie _) (λ_=>rfl) (λ_=>rfl) (.inl (Jb _))
     (λH=>⟨gj,by rw[z9a L];exact r1,.inr ⟨o,v,B,_,C,Zc E gD g,rfl,Heap.get_put_same _ _ _,O,ze5 r5 J,(r6.lay Q gD).mono H,r7,r8⟩⟩)
    exact⟨o,v,gD,_,_,_,rfl,hw,rfl,U,V,T⟩
  ·exact h.elim
 ·exact h.elim
def fk(I:HSim c G){x:LV}{a:AV}{K:Nat→Prop}(A:AR c x a)(h:lenL G x K):∃n,K n∧(a=.nilSl∧n=0∨a=.emp∧n=0∨∃o v i esz room,a=.sl o v i n esz room):=by
 unfold lenL at h;split at h
 ·cases A;exact⟨0,h,.inl ⟨rfl,rfl⟩⟩
 ·rename_i p k;split at h
  ·rename_i l len esz C st D;obtain⟨E,h⟩:=h;cases A with
   | @dy _ _ R S _ e T F _ =>
    obtain⟨U,V,g⟩:=I.obj p _ _ _ D e;have j:=F J;rcases g with ⟨g,B⟩|⟨o,v,room,t,L,X,g,_⟩
    ·exact⟨len,h,.inl ⟨j.trans g,B⟩⟩
    ·exact⟨len,h,.inr (.inr ⟨_,_,_,_,_,j.trans g⟩)⟩
  ·exact h.elim
 ·rename_i p k Y len;split at h
  ·rename_i l M esz C st D;obtain⟨E,h⟩:=h;cases A with
   | @vw _ _ _ _ R S _ e T F _ _ =>
    obtain⟨U,V,g⟩:=I.obj p _ _ _ D e;rcases F J with ⟨B,z|z⟩|⟨o,v,O,Q,room,H,_,z,_⟩
    ·exact⟨len,h,.inl ⟨z,B⟩⟩
    ·exact⟨len,h,.inr (.inl ⟨z.1,B⟩)⟩
    ·exact⟨len,h,.inr (.inr ⟨_,_,_,_,_,z⟩)⟩
  ·exact h.elim
 ·cases A with
  |lst=>exact⟨_,h,.inr (.inr ⟨_,_,_,_,_,rfl⟩)⟩
  |lstNil=>exact⟨0,h,.inl ⟨rfl,rfl⟩⟩
  |lstEmp=>exact⟨0,h,.inr (.inl ⟨rfl,rfl⟩)⟩
 ·exact h.elim
def zn3(l:List UInt8)(c:Cx):ARs c (l.map LV.b) ((T3 l.length (Oh l)).map λ(b:Nat)=>AV.int .u8 (Int.ofNat b)):=by
 rw[unpack_pack]
 induction l with
 |nil=>exact .nil
 |cons b l g=>exact .cons (.b b) g
def zue(R:HSim c G){x:LV}{a:AV}{K:Nat→List LV→Prop}(D:AR c x a)(h:Ra G g x K):∃n l C,Xc c.H g a=some (n,C)∧ARs c l C∧l.length=n*g∧K n l:=by
 have A:Nat.beq g g=true:=I0 _;unfold Ra at h;split at h
 ·cases D;exact⟨0,[],[],rfl,.nil,N,h⟩
 ·rename_i p k;split at h
  ·rename_i l len z S st Q;obtain⟨T,rfl,h⟩:=h;cases D with
   | @dy _ _ k' hh _ e hk U _ =>
    obtain⟨r0,V,E⟩:=R.obj p _ _ _ Q e;have F:=U J;rcases E with ⟨E,B⟩|⟨o,v,H,t,I,C,E,B,L,r5,Z,_⟩
    ·subst B;have:l=[]:=Iu (by simpa using V);subst this;exact⟨0,[],[],by rw[F,E];rfl,.nil,N,h⟩
    ·refine⟨len,l,C,?_,Z,V,h⟩;have M:=Tf (i:=0) (n:=len*z) B r5 L J;have X:C.length=len*z:=by rw[←Z.length];exact V
     rw[F,E];simp only[Xc,A];rw[show Nat.mul len z=len*z from rfl,M];simp[Io,X]
  ·exact h.elim
 ·rename_i p k lo len;split at h
  ·rename_i l gg z S st Q;obtain⟨T,rfl,h1,h⟩:=h;cases D with
   | @vw _ _ _ _ k' hh _ e hk U _ _ =>
    have gB:=(R.obj p _ _ _ Q e).1;rcases U J with ⟨B,L⟩|⟨o,v,gj,j,H,Y,B,L,_⟩
    ·subst B;refine⟨0,_,[],?_,by simpa using (ARs.nil (c:=c)),N,h⟩;rcases L with rfl|⟨rfl,_⟩<;>rfl
    ·subst B;obtain⟨_,q1,q2,q3,t,I,C,q4,q5,q6,q7,_⟩:=Yo R Q e;subst q2 q3;have M:=Tf (i:=lo*j) (n:=len*j) q4 q6 q5 J;refine⟨len,_,_,?_,(q7.drop (lo*j)).take (len*j),Ab,h⟩;rw[L];simp only[Xc,A];rw[show Nat.mul len j=len*j from rfl,M]
  ·exact h.elim
 ·rename_i l len z;obtain⟨rfl,h⟩:=h;cases D with
  |lst hf gC O M hl =>
   refine⟨len,l,_,?_,hl,O,h⟩;simp only[Xc,A];rw[show Nat.mul len z=len*z from rfl,M]
  |lstNil=>exact⟨0,[],[],rfl,.nil,N,h⟩
  |lstEmp=>exact⟨0,[],[],rfl,.nil,N,h⟩
 ·rename_i l;obtain⟨rfl,h⟩:=h;cases D;refine⟨l.length,_,_,?_,zn3 l c,N,h⟩;simp[Xc]
 ·exact h.elim
end res
end
section
section res
variable {P : Program} {c : Cx} {G : Mu} {K : LV → Mu → Prop}
def zrh(j:HSim c G)(k:K (.dy G.length 0) (G++[.dyn [] 0 g 0 0])):Qu P c G K (.val .nilSl c.H):=by
 obtain⟨z,A,_⟩:=j.push (H':=c.H) (x:=.nilSl) (ob:=.dyn [] 0 g 0 0) (Ie _) (λ_ _=>rfl) (λo e=>An) ⟨rfl,N,.inl ⟨rfl,rfl⟩⟩;exact⟨⟨c.hd++[(0,.nilSl)],c.Fz,c.H⟩,.dy G.length 0,_,rfl,z,A,.dy (h:=.nilSl) (by rw[←j.len];exact Jf) (Ie _) (λ_=>rfl) rfl,k⟩
def zpn(hs:HSim c G){p k:Nat}{a:AV}{n:Nat}{z:List AV}(ha:AR c (.dy p k) a)(hn:ARs c Y z)(hl:Y.length=n*g)(h:Pj G g (.dy p k) n Y K):Qu P c G K (Uf c.H g a n z):=by
 have Q:=hn.length;unfold Pj at h;dsimp only at h;split at h
 ·rename_i l len j X st hg;obtain⟨gZ,⟨rfl,gC⟩,gD,h⟩:=h;have gO:p<c.hd.length:=by rw[hs.len];exact (H5.1 hg).1
  cases ha with
  | @dy _ _ k' U _ e hk gP gQ =>
   obtain⟨r0,r1,B⟩:=hs.obj p _ _ _ hg e;have Z:=gP J;have F:∀{H':Heap} {x':AV},c.H.next≤H'.next→(∀o,o<c.H.next→Nk U≠some o→H'.get o=c.H.get o)→(∀o,Nk x'=some o→(Nk U=some o∨c.H.next≤o)∧o<H'.next)→cj x'=true→V3 U=false →
     (CxLe c ⟨c.hd.set p (k'+1,x'),c.Fz,H'⟩→ku ⟨c.hd.set p (k'+1,x'),c.Fz,H'⟩ (k'+1) x' (.dyn (l++Y) (len+n) j (X+1) (st+1)))→Qu P c G K (.val x' H'):=by
    intro H' x' h1 h2 h3 h4 h5 h6;obtain⟨q1,q2,_⟩:=hs.upd (k':=k'+1) (x':=x') (ob':=.dyn (l++Y) (len+n) j (X+1) (st+1)) (H':=H') hg rfl e h1 h2 h3 (K9 _) (λq=>J) (λq=>by rw[h5]at q;cases q) (.inl (Jb _)) h6;exact⟨_,.dy p (X+1),_,rfl,q1,q2,.dy (k':=k'+1) (h:=x') (by dsimp only;rw[Ia gO]) J (λ_=>rfl) h4,h⟩
   have D:(l++Y).length=(len+n)*j:=by rw[Il,r1,hl,I2]
   unfold Uf;cases hb:Nat.beq n 0 with
   |true =>
    have gE:=Ic hb;subst gE;have gF:Y=[]:=Iu (by simpa using hl);subst gF;have gG:V3 U=false:=by
     rcases B with ⟨B,_⟩|⟨o,v,E,t,A,H,B,_⟩<;>rw[B]<;>rfl
    have gR:cj U=true:=by rw[←Z];exact gQ
    have R:Qu P c G K (.val U c.H):=by
     refine F (Ie _) (λ_ _ _=>rfl) (λo O=>⟨.inl O,hs.lt o ⟨p,_,_,_,hg,rfl,e,O⟩⟩) gR gG (λC=>⟨J,D,?_⟩);simp only[Jd,La];rcases B with ⟨B,I⟩|⟨o,v,E,t,A,H,B,I,r4,r5,r6,r7,r8⟩
     ·exact .inl ⟨B,I⟩
     ·exact .inr ⟨o,v,E,t,A,H,B,I,r4,r5,r6.mono C,r7,r8⟩
    rw[Z];rcases B with ⟨B,I⟩|⟨o,v,E,t,A,H,B,I,r4,r5,r6,r7,r8⟩
    ·rw[B]at R ⊢;exact R
    ·rw[B]at R ⊢;exact R
   |false =>
    have gE:n≠0:=λq=>by rw[q]at hb;cases hb
    rw[Z];rcases B with ⟨B,I⟩|⟨o,v,E,t,A,H,B,I,r4,r5,r6,r7,r8⟩
    ·
     subst I;have gg:l=[]:=Iu D4;subst gg;rw[B];dsimp only[Wj];obtain⟨H',h1,h2,h3,h4⟩:=zci c z;rw[h1];dsimp only;refine F J (λo ho _=>h3 o ho) (λo O=>by cases O;exact⟨.inr (Ie _),J⟩) rfl Ew (λC=>⟨J,D,.inr ⟨c.H.next,0,none,_,z.length,z,?_,h4,?_,?_,hn.mono C,λr q=>C6,λ_=>?_⟩⟩)
     ·simp
     ·rw[I7];omega
     ·rw[I7,←hl,Q];exact jq z
     ·rw[I7];omega
    ·have gH:o<c.H.next:=hs.lt o ⟨p,_,_,_,hg,rfl,e,Ew⟩;have gS:H.length=len*j:=Ei
     rw[B];have gT:(Nat.beq j j&&Nat.ble len M8)=true:=by rw[I0,show Nat.ble len M8=true from If gD];rfl
     dsimp only;rw[gT];dsimp only;have S:Nk U=some o:=Ew
     have gj:V3 U=false:=Ew
     have V:Rb (O8 z (len*j) t) 0 ((len+n)*j)=some (H++z):=by
      have:=zn4 (r:=z) r5
      rwa [show len*j+z.length=(len+n)*j from by rw[←Q,hl,I2]]at this
     cases E with
     |some r =>
      obtain⟨T,g9⟩:=r7 r rfl;dsimp only;cases gI:Nat.ble (Nat.add len n) r with
      |true =>
       have L:len+n≤r:=Ik gI;have hm:(len+n)*j≤r*j:=Im _ L;have gK:(len+n)*j=len*j+n*j:=I2 _ _ _;have hw:T7 c.H o v (Nat.add 0 (Nat.mul len j)) z=some (c.H.put o (.cells (O8 z (len*j) t) A v false)):=by
        unfold T7;rw[I];have e1:Nat.add 0 (Nat.mul len j)=len*j:=I7 _;have gL:Nat.ble (Nat.add (len*j) z.length) A=true:=If (by show len*j+z.length≤A;omega);rw[e1];simp only[I0,gL]
       dsimp only;rw[hw];dsimp only;refine F (by exact Ie _) (λo' _ gB=>Heap.get_put_ne _ _ (λq=>gB (by rw[q];exact S))) (λo' O=>by cases O;exact⟨.inl S,gH⟩) rfl gj (λC=>⟨J,D,.inr ⟨o,v,some r,_,A,_,rfl,Heap.get_put_same _ _ _,J,V,(r6.append hn).mono C,λr' q=>by cases q;exact⟨T,L⟩,λq=>C6⟩⟩)
      |false =>
       have hr:=Tf (i:=0) (n:=len*j) I r5 r4 J;dsimp only;rw[show Nat.mul len j=len*j from rfl,hr];dsimp only[Wj];obtain⟨H',h1,h2,h3,h4⟩:=zci c ((H.drop 0).take (len*j)++z);rw[h1];dsimp only;have gU:(H.drop 0).take (len*j)=H:=by rw[Jt,Io J]
       rw[gU]at h4;have M:(H++z).length=(len+n)*j:=by rw[Il,gS,←Q,hl,I2]
       refine F J (λo' gV _=>h3 o' gV) (λo' O=>by cases O;exact⟨.inr (Ie _),J⟩) rfl gj (λC=>⟨J,D,.inr ⟨c.H.next,0,none,_,_,H++z,rfl,h4,J,?_,(r6.append hn).mono C,λr' q=>C6,λ_=>M⟩⟩);rw[←M];exact jq _
     |none =>
      have T:=r8 rfl;dsimp only;rw[I];dsimp only;have gK:(len+n)*j=len*j+n*j:=I2 _ _ _;have gX:0<n*j:=Nat.mul_pos J gC;have gY:Nat.ble (Nat.add 0 (Nat.mul (Nat.add len n) j)) A=false:=by
       cases hq:Nat.ble (Nat.add 0 (Nat.mul (Nat.add len n) j)) A with
       |false=>rfl
       |true =>
        have:0+(len+n)*j≤A:=Ik hq;omega
      have gM:Nat.beq (Nat.mul len j) A=true:=by rw[T];exact I0 _
      rw[I0,gY,gM,T];dsimp only;have M:Nat.add (len*j) z.length=(len+n)*j:=by show len*j+z.length=_;rw[←Q,hl,gK]
      refine F (by exact Ie _) (λo' _ gB=>Heap.get_put_ne _ _ (λq=>gB (by rw[q];exact S))) (λo' O=>by cases O;exact⟨.inl S,gH⟩) rfl gj (λC=>⟨J,D,.inr ⟨o,v+1,none,_,_,_,rfl,Heap.get_put_same _ _ _,by rw[M];exact Ie _,V,(r6.append hn).mono C,λr' q=>C6,λ_=>M⟩⟩)
 ·exact h.elim
def zus(B:HSim c G){s:LV}{a:AV}{n:Nat}{X:List AV}(ha:AR c s a)(Q:ARs c Y X)(R:Y.length=n*g)(h:Pj G g s n Y K):Qu P c G K (Uf c.H g a n X):=by
 have gQ:=Q.length;unfold Pj at h;split at h
 ·
  cases ha;unfold Uf;cases T:Nat.beq n 0 with
  |true =>
   have:=Ic T;subst this;have:Y=[]:=Iu C7;subst this;exact zrh B h
  |false =>
   dsimp only[Wj];exact d8 B Q R (λr e=>An) h
 ·rename_i p k;exact zpn B ha Q R (by unfold Pj;exact h)
 ·rename_i p k lo len;split at h
  ·rename_i l gE U gL st S;obtain⟨gj,⟨rfl,rfl,gM⟩,C,h⟩:=h;have F:Nat.beq n 0=false:=by
    cases T:Nat.beq n 0 with
    |false=>rfl
    |true=>have:=Ic T;omega
   cases ha with
   | @vw _ _ _ _ k' hh _ e hk V gF hz =>
    split at h
    case isFalse Z =>
     obtain⟨gB,gG,h1,h2⟩:=h;subst gB;have gH:=(B.obj p _ _ _ S e).1;have L:=hz J rfl;rcases V J with ⟨H,I⟩|⟨o,v,z,j,D,A,H,I,r9⟩
     ·subst H;rcases I with rfl|⟨_,r5⟩
      ·have gB:l=[]:=Iu (by have:=(B.obj p _ _ _ S e).2.1;simpa using this);subst gB;unfold Uf;rw[F];dsimp only[Wj];refine d8 B Q R (λr e=>An) ?_;simpa using h2
      ·exact absurd rfl r5
     ·have e2:=e;rw[H]at e2;obtain⟨_,w1,w2,w3,t,E,l',w4,w5,w6,w7,_⟩:=Yo B S e2;subst w2 w3;rw[H,I]at L;dsimp only[Vj]at L;by_cases gI:A=D
      ·refine zpn B (p:=p) (k:=k) (.dy e hk (λ_=>by rw[I,H,gI,Kq]) gF) Q R ?_;unfold Pj;dsimp only;rw[S];exact⟨gj,⟨rfl,gG⟩,C,h1⟩
      ·rcases L with L|⟨r,rfl,hr⟩
       ·exact absurd L gI
       have M:(Nat.beq j j&&Nat.ble z M8)=true:=by rw[I0,show Nat.ble z M8=true from If C];rfl
       have gC:Nat.ble (Nat.add z n) r=false:=by
        cases hq:Nat.ble (Nat.add z n) r with
        |false=>rfl
        |true=>have:z+n≤r:=Ik hq;omega
       rw[I];unfold Uf;rw[F];dsimp only;rw[M];dsimp only;rw[gC];dsimp only;have gD:=Tf (i:=0) (n:=z*j) w4 w6 w5 J;rw[show Nat.mul z j=z*j from rfl,show 0*j=0 from Kq _,gD];dsimp only[Wj];have O:=I2 z n j;have gO:l.take (z*j)=l:=Io J;refine d8 B ((w7.take _).append Q) (by rw[Il,Ir,R];show min (z*j) l.length+n*j=(z+n)*j;omega) (λr e=>An) ?_;rw[gO];exact h2
    case isTrue Z =>
     obtain⟨h1,h2⟩:=h;have gH:=(B.obj p _ _ _ S e).1;have O:(len+n)*U=len*U+n*U:=I2 _ _ _;rcases V J with ⟨H,I⟩|⟨o,v,z,j,D,A,H,I,r9⟩
     ·subst H;rcases I with rfl|⟨_,r5⟩
      ·unfold Uf;rw[F];dsimp only[Wj];refine d8 B Q R (λr e=>An) ?_;simpa using h2
      ·exact absurd rfl r5
     ·have e2:=e;rw[H]at e2;obtain⟨_,w1,w2,w3,t,E,l',w4,w5,w6,w7,_⟩:=Yo B S e2;subst w2 w3;rw[I];have hw:Tn G (.dptr p k (len*j)) Y (λG'=>K (.vw p k 0 (len+n)) G'):=by
       unfold Tn;dsimp only;rw[S];exact⟨gj,by rw[R,←O];exact Z,h1⟩
      obtain⟨o2,v2,i2,H',c',G',u1,u2,u3,u4,u5,u6⟩:=z9q B (a:=.ptr o v (len*j)) (.dptr e hk (λ_=>⟨rfl,_,j,D,H⟩)) Q hw;cases u1;have gg:(∀r,A=some r→len+n≤r)→Qu P c G K (.val (.sl o v (0*j) (len+n) j A) H'):=λhr=>by
       refine⟨c',.vw p k 0 (len+n),G',u3,u4,u5,AR.mono u5.le (.vw e hk (λ_=>.inr ⟨o,v,_,j,D,A,H,rfl,hr⟩) rfl (λq=>by have:=hz q;rw[I]at this;exact this)),u6⟩
      have M:(Nat.beq j j&&Nat.ble len M8)=true:=Ek
      have gK:Nat.add (0*j) (Nat.mul len j)=len*j:=by show 0*j+len*j=_;omega
      have gP:len*j≤z*j:=by rw[←w1];omega
      unfold Uf;rw[F];dsimp only;rw[M];dsimp only;cases A with
      |some r =>
       dsimp only;cases T:Nat.ble (Nat.add len n) r with
       |true =>
        dsimp only;rw[gK,u2];exact gg (λr' e'=>by cases e';exact Ik T)
       |false =>
        dsimp only;have hr:=Tf (i:=0) (n:=len*j) w4 w6 w5 J;rw[show Nat.mul len j=len*j from rfl,show 0*j=0 from Kq _,hr];dsimp only[Wj];refine d8 B ((w7.take _).append Q) Da (λr e=>An) h2
      |none =>
       dsimp only;rw[w4];dsimp only;rw[I0,gK];have T:Nat.ble (Nat.add (0*j) (Nat.mul (Nat.add len n) j)) E=true:=If (by show 0*j+(len+n)*j≤E;omega);rw[T];dsimp only;rw[u2];exact gg (λr' e'=>by cases e')
  ·exact h.elim
 ·rename_i p k len;split at h
  ·rename_i l gE U gL st S;obtain⟨gj,⟨rfl,gM⟩,C,gR,h⟩:=h;have F:Nat.beq n 0=false:=by
    cases T:Nat.beq n 0 with
    |false=>rfl
    |true=>have:=Ic T;omega
   cases ha with
   | @vf _ _ _ k' hh _ e hk V gF =>
    have gH:=(B.obj p _ _ _ S e).1;obtain⟨o,v,z,j,D,H,I⟩:=V J;have e2:=e;rw[H]at e2;obtain⟨_,w1,w2,w3,t,E,l',w4,w5,w6,w7,_⟩:=Yo B S e2;subst w2 w3;have M:(Nat.beq j j&&Nat.ble len M8)=true:=Ek
    have gC:Nat.ble (Nat.add len n) len=false:=by
     cases hq:Nat.ble (Nat.add len n) len with
     |false=>rfl
     |true=>have:len+n≤len:=Ik hq;omega
    rw[I];unfold Uf;rw[F];dsimp only;rw[M];dsimp only;rw[gC];dsimp only;have gD:=Tf (i:=0) (n:=len*j) w4 w6 w5 J;rw[show Nat.mul len j=len*j from rfl,gD];dsimp only[Wj];have O:=I2 len n j;refine d8 B ((w7.take _).append Q) Da (λr e=>An) h
  ·exact h.elim
 ·exact h.elim
end res
end
section
section res
variable {P : Program} {c : Cx} {G : Mu} {K : LV → Mu → Prop}
def Y4{v:LV}{a:AV}(g:v.scal=true)(h:AR c v a):a=toA v:=by
 cases v<;>first|(cases g;done)|(cases h;rfl)
def toAs_scal:∀{l:List LV} {r:List AV},l.all LV.scal=true→ARs c l r→r=toAs l
 |[],_,_,.nil=>rfl
 |v::l,_,h,.cons e g=>by
  simp only[Ke,H7]at h;rw[toAs,←Y4 h.1 e,←toAs_scal h.2 g]
def co{op:BinOp}{t:TypeId}{x y:LV}{a b:AV}{K:LV→Prop}(z:AR c x a)(A:AR c y b)(h:Q7 P op L t x y K):Qp c K (Ou P op L t a b):=by
 unfold Q7 at h;split at h
 ·cases z;cases A;exact rk h
 ·cases z;cases A;exact sb h
 ·cases z;cases A;exact td h
 ·rename_i u v;cases z;cases A;cases op<;>try exact h.elim
  ·simp only[Ou];rw[h.1];exact .mk (.bool _) h.2
  ·simp only[Ou];rw[h.1];exact .mk (.bool _) h.2
 ·rename_i u s;cases z;cases A;cases op<;>try exact h.elim
  ·obtain⟨g,j⟩:=h;obtain⟨n,rfl⟩:=Ip g;exact .mk (.u' (jm u n)) j
  ·obtain⟨g,j⟩:=h;obtain⟨n,rfl⟩:=Ip g;exact .mk (.u' (ju u n)) j
 ·rename_i u s;cases z;cases A;cases op<;>try exact h.elim
  ·obtain⟨g,j,F,C⟩:=h;rw[(zk2 (s:=Int.ofNat s.toNat) g (Jo _) (by show (s.toNat:Int)≤64;omega)).1];exact .mk (.i' (V2 F)) C
  ·obtain⟨g,j,C⟩:=h;rw[(zk2 (s:=Int.ofNat s.toNat) g (Jo _) (by show (s.toNat:Int)≤64;omega)).2];exact .mk (.i _) C
 ·obtain⟨rfl,h⟩:=h;cases z;cases A;exact rp h
 ·cases z;cases A;exact sw h
 ·cases z;cases A;exact znn Cn h
 ·cases z;cases A;have:∀o v i,Qo P L t (.ptr o v i) .nilPtr=Qo P L t (.ptr 0 0 0) .nilPtr:=λo v i=>by
   unfold Qo uu xq Yc;dsimp only;cases P.underlying t with
   |none=>rfl
   |some d=>cases d<;>rfl
  refine znn (r:=false) Cn ?_;cases op<;>simp only[Vx]at h ⊢<;>(rw[this];exact h)
 ·cases z;cases A;exact znn Cn h
 ·cases A;obtain⟨g,j⟩:=h;have D:Qo P L t .emp .nilSl=some false∧∀o v i len H E,Qo P L t (.sl o v i len H E) .nilSl=some false:=by
   unfold Qo uu xq Yc at g ⊢;dsimp only at g ⊢;cases hu:P.underlying t with
   |none=>rw[hu]at g;cases g
   |some d=>rw[hu]at g;cases d<;>first|(cases g;done)|exact⟨rfl,λ_ _ _ _ _ _=>rfl⟩
  have B:∀{a:AV} {b:Bool},Qo P L t a .nilSl=some b→(Ou P op L t a .nilSl=match op with | .eql=>mp (Qo P L t a .nilSl) | .neq=>py (Qo P L t a .nilSl)|_=>none)→(match op with | .eql=>K (.bool b) | .neq=>K (.bool !b)|_=>False)→Qp c K (Ou P op L t a .nilSl):=by
   intro a b F C O;rw[C,F];cases op<;>first|exact O.elim|exact .mk (.bool _) O
  cases z with
  |lst S R Q T U =>
   refine B (D.2 _ _ _ _ _ _) Cn ?_;cases op<;>first|exact j.elim|exact j.1
  |lstNil =>
   refine B g Cn ?_;cases op<;>first|exact j.elim|exact j.2 rfl
  |lstEmp =>
   refine B D.1 Cn ?_;cases op<;>first|exact j.elim|exact j.1
 ·cases z with
  |agg g=>cases A with
   |agg j =>
    cases op<;>try exact h.elim
    ·obtain⟨b,I,M,e,k⟩:=h;rw[toAs_scal I g,toAs_scal M j];simp only[Ou];rw[e];exact .mk (.bool _) k
    ·obtain⟨b,I,M,e,k⟩:=h;rw[toAs_scal I g,toAs_scal M j];simp only[Ou];rw[e];exact .mk (.bool _) k
 ·exact h.elim
def mi{op:UnOp}{x:LV}{a:AV}{K:LV→Prop}(g:AR c x a)(h:oz op x K):Qp c K (unA op a):=by
 unfold oz at h;simp only[zov,zsv]at h;split at h
 ·cases g;exact .mk (.bool _) h
 ·cases g;refine .mk (.u' ?_) h;rename_i u;rw[Vw,UInt64.toNat_sub];show (0-Int.ofNat u.toNat)%_=((2^64-u.toNat+(0:UInt64).toNat)%2^64:Nat);have:=u.toNat_lt;simp only[It,UInt64.toNat_zero];omega
 ·cases g;obtain⟨j,z⟩:=h;refine .mk (.i' ?_) z;have e:∀n:Int,Int.sub 0 n=-n:=λn=>by show 0-n=-n;omega
  rw[e];exact V2 j
 ·cases g;refine .mk (.u' ?_) h;rename_i u;have hu:=u.toNat_lt;show IntKind.wrap .u64 (BitVec.ofInt 64 (IntKind.max .u64) ^^^ BitVec.ofInt 64 (Int.ofNat u.toNat)).toNat=_;have A:BitVec.ofInt 64 (IntKind.max .u64)=BitVec.allOnes 64:=Ah
  have B:BitVec.ofInt 64 (Int.ofNat u.toNat)=u.toBitVec:=by
   apply BitVec.eq_of_toNat_eq;simp
  rw[A,B,BitVec.allOnes_xor];show ((~~~u.toBitVec).toNat:Int)%18446744073709551616=Int.ofNat (~~~u).toNat;have:(~~~u).toNat=(~~~u.toBitVec).toNat:=rfl;rw[this];exact J7 (Jo _) (by have:=(~~~u.toBitVec).isLt;omega)
 ·exact h.elim
def zsk(n:Int):n%18446744073709551616=Int.ofNat (UInt64.ofInt n).toNat:=by
 unfold UInt64.ofInt;rw[Jq];simp only[It];omega
def zqq(n:Int):n%256=Int.ofNat (UInt8.ofInt n).toNat:=by
 unfold UInt8.ofInt;rw[UInt8.toNat_ofNat'];simp only[It];omega
def ml{k:IntKind}{x:LV}{a:AV}{K:LV→Prop}(g:AR c x a)(h:ft k x K):∃k' n,a=.int k' n∧∃v,AR c v (.int k (Th k n))∧K v:=by
 unfold ft at h;simp only[lf,zq,zh,x4]at h;split at h
 ·cases g;rename_i u;refine⟨_,_,rfl,_,.u' ?_,h⟩;rw[Vw];exact J7 (Jo _) Fb
 ·cases g;refine⟨_,_,rfl,_,.u' ?_,h⟩;rename_i n;rw[Vw];exact zsk n
 ·cases g;rename_i u;refine⟨_,_,rfl,_,.u' ?_,h⟩;rw[Vw];have:=u.toNat_lt;rw[Jq];show Int.ofNat u.toNat%18446744073709551616=Int.ofNat (u.toNat%2^64);simp only[It];omega
 ·cases g;rename_i u;exact⟨_,_,rfl,_,.i' (V2 ⟨Ca,Ca⟩),h.2⟩
 ·cases g;exact⟨_,_,rfl,_,.i' (V2 h.1),h.2⟩
 ·cases g;rename_i u;have:=u.toNat_lt;exact⟨_,_,rfl,_,.i' (V2 ⟨Ca,Ca⟩),h⟩
 ·cases g;rename_i u;refine⟨_,_,rfl,_,.b' ?_,h⟩;rw[kx,UInt8.toNat_ofNat'];show Int.ofNat u.toNat%256=Int.ofNat (u.toNat%2^8);simp only[It];omega
 ·cases g;refine⟨_,_,rfl,_,.b' ?_,h⟩;rename_i n;rw[kx];exact zqq n
 ·cases g;rename_i u;refine⟨_,_,rfl,_,.b' ?_,h⟩;rw[kx];exact J7 (Jo _) Fb
 ·cases g;refine⟨_,_,rfl,_,.b' ?_,h⟩;rename_i n;rw[kx];exact zqq n
 ·cases g;refine⟨_,_,rfl,_,?_,h⟩;rename_i n;have e:Th .i32 n=w32 n:=by
   rw[V7];show (if (true&&decide (n%4294967296 ≥ 2147483648))=true then n%4294967296-4294967296 else n%4294967296)=w32 n;simp only[Kf,Ii,w32];split<;>omega
  rw[e];exact .int .i32 _
 ·cases g;exact⟨_,_,rfl,_,.i' (V2 h.1),h.2⟩
 ·exact h.elim
def layL_eq:∀(r l:List AV) (i:Nat),i+r.length≤l.length→Sq l i r=Zc l i r
 |[],l,i,h=>by
  simp only[Sq,Zc,List.length_nil,La,Jd,Jp]
 |a::r,l,i,h=>by
  simp only[Iv]at h;rw[Sq,layL_eq r (l.set i a) (i+1) Ab];refine List.ext_getElem? (λg=>?_);rw[zgx Ab,zgx Ab];simp only[Iv];by_cases j:i+1≤g∧g<i+1+r.length
  ·rw[Ih j,Ih J,show g-i=(g-(i+1))+1 from J,Is]
  ·rw[Ig j];by_cases z:g=i
   ·subst z;rw[Ih J,Ia J];simp
   ·rw[Ig J,H6 (Ne.symm z)]
def zjn{X:My}{Y:Tr AV}(F:Nu c X Y):∀{B:List (Nat×Nat×Lx)} {C l:List LV} {g:List AV},B.all (·.2.2.ok)=true→ARs c C g→bz X C B=some l→∃D,mw (ρA Y) g (yw B)=some D∧ARs c l D
 |[],C,l,g,_,h,e=>by
  simp only[bz,Option.some.injEq]at e;subst e;exact⟨g,rfl,h⟩
 |(z,j,x)::B,C,l,g,A,h,e=>by
  simp only[Ke,H7]at A;simp only[bz]at e;split at e
  ·cases e
  ·rename_i r I;split at e
   ·rename_i L;obtain⟨M,Z⟩:=L;obtain⟨O,Q,H⟩:=(N5 F A.1).cells I;have E:=H.length;have R:=h.length;obtain⟨D,S,T⟩:=zjn F A.2 (h.lay H z) e;refine⟨D,?_,T⟩;simp only[yw,mw,Q];have U:Nat.beq O.length j=true:=by rw[←E,M];exact I0 _
    have V:Nat.ble (Nat.add z j) g.length=true:=If (by show z+j≤_;omega);simp only[U,V];rw[layL_eq _ _ _ J];exact S
   ·cases e
def Ti{D:My}(A:Nu c D I){d:Nat}{x:Option Lx}(j:br x=true){K:Nat→Prop}(h:Om D d x K):∃r n,Oy (ρA I) (x.map Lx.r)=some r∧r.getD d=n∧K n:=by
 cases x with
 |none=>exact⟨none,d,rfl,rfl,h⟩
 |some x =>
  simp only[Om]at h;have g:=N5 A (show x.ok=true from j);simp only[Jw,Oy];split at h
  ·rename_i n z;obtain⟨B,C⟩:=h;rw[z]at g;generalize x.r.ev (ρA I)=a at g;cases g;obtain⟨m,rfl⟩:=Ip B;exact⟨some m,m,rfl,rfl,C⟩
  ·rename_i n z;rw[z]at g;generalize x.r.ev (ρA I)=a at g;cases g;exact⟨some n.toNat,n.toNat,rfl,rfl,h⟩
  ·exact h.elim
end res
end
section
section res
variable {P : Program} {c : Cx} {G : Mu} {K : LV → Mu → Prop}
def zve{d:TypeDesc}{k:LV}{a:AV}{b:Bool}(g:AR c k a)(j:AR c O E)(h:Um d k O=some b):dj d a E=some b:=by
 unfold Um at h;split at h
 ·cases g;cases j;cases h;simp only[dj,show Ve .i64 .i64=true from rfl,aq]
 ·cases g;cases j;cases h;simp only[dj,show Ve .u64 .u64=true from rfl,aq,zjk]
 ·cases g;cases j;cases h;simp only[dj,zuh]
 ·cases h
def zpq{d:TypeDesc}{k:LV}{a:AV}(A:AR c k a){K:Option LV→Prop}:∀{B:List (LV×LV×Nat)} {g:List (AV×AV×Nat)},MRs c B g→cg d k K B→(jy d a g=some none∧K none)∨∃v b,jy d a g=some (some b)∧AR c v b∧K (some v)
 |_,_,.nil,h=>.inl ⟨rfl,h⟩
 |(F,C,n)::l,_,.cons j z D,h=>by
  simp only[cg]at h;split at h
  ·rename_i b E;have:=zve A j E;simp only[jy,this];cases b with
   |true=>exact .inr ⟨C,_,rfl,z,h.1 rfl⟩
   |false=>exact zpq A D (h.2 rfl)
  ·exact h.elim
def zta{d:TypeDesc}{k v:LV}{a b:AV}{E:Nat}(A:AR c k a)(B:AR c v b):∀{F:List (LV×LV×Nat)} {j:List (AV×AV×Nat)} {K:List (LV×LV×Nat)→Bool→Prop},MRs c F j→Ty d k v E K F→∃r C g,kr d a b E j=some (C,g)∧MRs c r C∧K r g
 |_,_,K,.nil,h=>⟨_,_,true,rfl,.cons A B .nil,h⟩
 |(I,L,n)::l,_,K,.cons z D H,h=>by
  simp only[Ty]at h;split at h
  ·rename_i t M;have:=zve A z M;simp only[kr,this];cases t with
   |true=>exact⟨_,_,false,rfl,.cons A B H,h.1 rfl⟩
   |false =>
    obtain⟨r,C,g,O,Q,R⟩:=zta (K:=λr g=>K ((I,L,n)::r) g) A B H (h.2 rfl);exact⟨_,_,g,by rw[O],.cons z D Q,R⟩
  ·exact h.elim
def zsi(D:HSim c G){x:LV}{a:AV}(B:AR c x a){K:List (LV×LV×Nat)→Prop}(h:Ut G x K):∃j g,xp c.H a=some g∧MRs c j g∧K j∧(a=.nilMap∧g=[]∨∃o z,a=.map o∧c.H.get o=some (.map g z)):=by
 unfold Ut at h;split at h
 ·cases B;exact⟨[],[],rfl,.nil,h,.inl ⟨rfl,rfl⟩⟩
 ·rename_i p;split at h
  ·rename_i j z st E;cases B with
   | @map _ o e =>
    obtain⟨_,H,g,A,C,F⟩:=D.obj p _ _ _ E e;injection A with A
    subst A;refine⟨j,g,?_,F,h,.inr ⟨o,z,rfl,C⟩⟩;simp only[xp,C]
  ·exact h.elim
 ·exact h.elim
def zfz(g:HSim c G)(k:K (.map G.length) (G++[.map [] 0 0])):Qu P c G K (Vh c.H):=by
 unfold Vh;obtain⟨j,z,_⟩:=g.push (H':=c.H.push (.map [] 0)) (x:=.map c.H.next) (ob:=.map [] 0 0) (by show c.H.next≤c.H.next+1;omega) (λo A=>Heap.get_push_ne _ _ A) (λo e=>by cases e;exact⟨Ie _,by show c.H.next<c.H.next+1;omega⟩)
  ⟨rfl,c.H.next,[],rfl,Heap.get_push_same _ _,.nil⟩
 exact⟨_,.map G.length,_,rfl,j,z,.map (by rw[←g.len];exact Jf),k⟩
def zts(B:HSim c G){d:TypeDesc}{m k v:LV}{O:AV}(hm:AR c m E)(T:AR c k vQ)(U:AR c v O)(h:kf G d m k v λV=>K .any V) :
  Qu P c G K (match (generalizing:=false) E with
   |.map o=>match c.H.get o with
    |some (.map Q g)=>match kr d vQ O g Q with
     |some (z,true)=>.val Qs (c.H.put o (.map z (Nat.add g 1)))
     |some (z,false)=>.val Qs (c.H.put o (.map z g))
     |none=>.no
    |_=>.no
   |_=>.no):=by
 unfold kf at h;split at h
 ·rename_i p;split at h
  ·rename_i Q ck st C;cases hm with
   | @map _ o e =>
    obtain⟨_,R,z,D,X,Y⟩:=B.obj p _ _ _ C e;injection D with D
    subst D;obtain⟨r,F,H,Z,q2,S⟩:=zta T U Y h;have I:o<c.H.next:=B.lt o ⟨p,_,_,_,C,rfl,e,rfl⟩;have A:∀j,K .any (G.set p (.map r j (st+1)))→Qu P c G K (.val Qs (c.H.put o (.map F j))):=by
     intro j kk;obtain⟨u1,u2,u3⟩:=B.upd (k':=0) (x':=.map o) (ob':=.map r j (st+1)) (H':=c.H.put o (.map F j)) C rfl e (Ie _) (λR _ L=>Heap.get_put_ne _ _ (λq=>L Em)) (λR e'=>by cases e';exact⟨.inl rfl,I⟩) (Ie _) (λ_=>rfl) (λ_=>rfl) (.inl (Jb _))
      (λM=>⟨rfl,o,F,rfl,Heap.get_put_same _ _ _,q2.mono M⟩)
     exact⟨_,.any,_,rfl,u1,u2,.any _,kk⟩
    simp only[X,Z];cases H with
    |true=>exact A _ S
    |false=>exact A _ S
  ·exact h.elim
 ·exact h.elim
def HSim.freeze(hs:HSim c G){p k o st:Nat}{x:AV}{ob:LObj}(hG:G[p]?=some ob)(hl:ob.live=true)(gD:ob.st<st)(hp:c.hd[p]?=some (k,x))(ho:Nk x=some o) :
  HSim ⟨c.hd,λq=>c.Fz q∨q=o,c.H⟩ (G.set p (.dead st))∧Step c G ⟨c.hd,λq=>c.Fz q∨q=o,c.H⟩ (G.set p (.dead st)):=by
 have gE:p<G.length:=(H5.1 hG).1;have hle:CxLe c ⟨c.hd,λq=>c.Fz q∨q=o,c.H⟩:=⟨λp k h e=>⟨k,h,e,Ie _,λ_=>rfl,λ_=>rfl⟩,λq hq=>⟨.inl hq,rfl⟩⟩;have gB:Ot c G o:=⟨p,ob,k,x,hG,hl,hp,ho⟩;have hinv:∀{q:Nat} {gg:LObj},(G.set p (.dead st))[q]?=some gg→(q=p∧gg=.dead st)∨(q≠p∧G[q]?=some gg):=by
  intro q gg e;by_cases hq:q=p
  ·subst hq;rw[Ia gE]at e;cases e;exact .inl ⟨rfl,rfl⟩
  ·rw[H6 (Ne.symm hq)]at e;exact .inr ⟨hq,e⟩
 have gj:∀q,Ot ⟨c.hd,λq=>c.Fz q∨q=o,c.H⟩ (G.set p (.dead st)) q→Ot c G q∧q≠o:=by
  rintro q ⟨p1,gg,k1,h1,e1,e2,e3,e4⟩;rcases hinv e1 with ⟨_,rfl⟩|⟨gF,e1⟩
  ·cases e2
  ·refine⟨⟨p1,gg,k1,h1,e1,e2,e3,e4⟩,λhq=>gF ?_⟩;subst hq;exact hs.excl p1 p gg ob k1 h1 k x q e1 hG e2 hl e3 hp e4 ho
 refine⟨⟨Dt,λq hq=>hq.elim (hs.fz q) (λe=>by rw[e];exact hs.lt o gB),λq hq=>hs.lt q (gj q hq).1,λq hq hf=>hf.elim (hs.sep q (gj q hq).1) (gj q hq).2,λq gg k1 h1 e1 e2=>?_,?_⟩,⟨hle,Ie _,λ_ _ _=>rfl,λq hq=>.inl (gj q hq).1,λq hq=>hq.elim .inl (λe=>.inr (.inl (by rw[e];exact gB))),λq gg gC e1 e2=>?_,λq gg gC k1 h1 o1 e1 e2 e3 e4 e5 e6=>?_⟩⟩
 ·rcases hinv e1 with ⟨_,rfl⟩|⟨_,e1⟩
  ·trivial
  ·by_cases gG:gg.live=true
   ·exact (hs.obj q gg k1 h1 e1 e2).mono hle (λ_ _=>rfl)
   ·cases gg<;>first|exact absurd rfl gG|trivial
 ·intro q r gg gC k1 h1 k2 h2 o1 e1 e2 e3 e4 e5 e6 e7 e8;rcases hinv e1 with ⟨_,rfl⟩|⟨_,e1⟩
  ·cases e3
  ·rcases hinv e2 with ⟨_,rfl⟩|⟨_,e2⟩
   ·cases e4
   ·exact hs.excl q r gg gC k1 h1 k2 h2 o1 e1 e2 e3 e4 e5 e6 e7 e8
 ·rcases hinv e2 with ⟨rfl,rfl⟩|⟨_,e2⟩
  ·rw[hG]at e1;cases e1;exact Mm gD
  ·rw[e1]at e2;cases e2;exact Ie _
 ·rcases hinv e2 with ⟨rfl,rfl⟩|⟨_,e2⟩
  ·rw[hG]at e1;cases e1;have:ob.st=st:=e6;omega
  ·rw[e1]at e2;cases e2;exact⟨rfl,rfl,rfl⟩
end res
end
end Go.Sv
