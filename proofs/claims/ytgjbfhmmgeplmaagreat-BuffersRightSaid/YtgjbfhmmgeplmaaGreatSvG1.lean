/- Texts of the evaluator, of the logic over it, of plain arithmetic. -/
import Derived.Test.YtgjbfhmmgeplmaaGreatSvG0
import Derived.Orders
import Derived.WalkKit
import Derived.ProofKit
import Derived.OpenShut
set_option linter.unusedSimpArgs false
set_option linter.defProp false
namespace Go.Sv
variable{g j C:Nat}{p:Program}{B:World}{I vN:Bool}{T:Option Nat}{X:Array Value}{v9:Type}{v7:List Nat}{vO:List Value}{vM:Code}{A S:Heap}{D vR:AV}{F vY:Tr AV}{H:List AV}{E:CM}
section
open Go.RowKit (Below)
def zm(g:AObj):Prop:=∀p j w o,(∀v,j.f o v=none)→Oq p j w o g
def rz(C:Program)(D:CM)(w:World)(p:Sem Next)(v:AV)(z:AObj):Prop :=
 ∃g n A x,p.run C w=.ok (.value x) (w.alloc g)∧∀(j:CM) (id:Nat),D.keep j→j id 0=some ⟨w.heap.size,0,n,A⟩ →
  VR j (Ph id v) x∧∀B,B≤w.heap.size→Oq B j (w.alloc g) id z
def jw(C:Program)(D:Tr AV)(z:Heap)(j:(Operand→Value)→Sem Next):OR→Prop
 |.no=>True
 |.val v p=>∃g,True∧p=z.push g∧Nf v=some z.next∧zm g∧∀A w B,km A D B→rz C A w (j B) v g
 |.call _ _=>False
def Mk(z:Program)(A:OpF)(g:(Operand→Value)→Sem Next):Prop:=∀j p,jw z j p g (A.run j p)
def Mk.congr{P:Program}{F:OpF}{nx gg:(Operand→Value)→Sem Next}(h:∀ρ,nx ρ=gg ρ)(s:Mk P F nx):Mk P F gg:=by
 rw[show gg=nx from funext λρ=>(h ρ).symm];exact s
def bt(j:Program)(g:(Operand→Value)→Sem Next):Mk j Nc g:=λ_ _=>trivial
def zc4{l:List AV}{o:Nat}(h:newObj A l=some (o,S)):True∧True∧o=A.next∧S=A.push (.cells (Ou l 0 .e) l.length 0 false):=by
 unfold newObj at h;cases h;exact⟨trivial,trivial,rfl,rfl⟩
def zjm{l:List AV}(_:True):zm (.cells (Ou l 0 .e) l.length 0 false):=λp z w o j=>λA g=>by rw[j]at g;cases g
def Xo{w:World}{l:List AV}{t:TypeId}(_hl:True)(D:VRs E l X.toList)(I:∀a∈l,a.one=true){F:Sem Next}{v:AV}{x:Value}
  (A:F.run p w=.ok (.value x) (w.alloc (.cells X t))) (K:∀(z:CM) (id:Nat),z id 0=some ⟨w.heap.size,0,l.length,X.size⟩→VR z (Ph id v) x) :
  rz p E w F v (.cells (Ou l 0 .e) l.length 0 false):=by
 have g:l.length=X.toList.length:=D.length;have B:l.length=X.size:=B0
 refine⟨_,l.length,X.size,x,A,λz id L G=>⟨K z id G,λP M=>λQ j=>?_⟩⟩;rw[G]at j;cases j;refine⟨rfl,λ_=>M,Br,X,t,0,0,Wi _ _,Hm _,λi _ _=>J,?_⟩;intro k C;rw[get_ofList l 0 .e k,Hs J];obtain⟨a,v,H,N,O⟩:=D.get' (i:=k) C;refine⟨a,D4,I a (Im H),v,?_,O.mono' L⟩;simpa using N
def zmc{l:List AV}{z:(Operand→Value)→Sem Next}{t:TypeId}
  (g:∀C w D,km C F D→∃j:Array Value,VRs C l j.toList∧(∀a∈l,a.one=true)∧(z D).run p w=.ok (.value (.pointer (some ⟨w.heap.size,0,none⟩))) (w.alloc (.cells j t))) :
  jw p F A z (Us A l):=by
 unfold Us;split
 ·rename_i o N E;obtain⟨G,B,rfl,rfl⟩:=zc4 E;refine⟨_,G,rfl,rfl,zjm B,λC w D H=>?_⟩;obtain⟨j,I,K,L⟩:=g C w D H;refine Xo B I K L (λO id M=>?_);simpa [Ph] using VR.ptr (i:=0) M
 ·exact trivial
def Yv(g:Program)(t:TypeId):Mk g (Nj g (.alloc t)) (λ_=>do pure (.value (←Instr.alloc t true (.tuple #[])))):=by
 intro E j;show jw g E j _ (OpF.run (match Rn g t with
  |some l=>⟨λ_ j=>Us j l⟩
  |none=>Nc) E j)
 cases p:Rn g t with
 |none=>exact trivial
 |some l =>
  refine zmc (t:=t) (λF w K G=>?_);obtain⟨v,i,z,A,H,I⟩:=jc (w:=w) p;obtain⟨B,D⟩:=V5 (C:=F) A;exact⟨v.cells,B,D,by simp[Instr.alloc,z,newVar,newRow]⟩
def zn8{x:Operand}{f:Heap→AV→OR}{g:(Operand→Value)→Sem Next}(h:∀j z a,(M0 x).run j=some a→jw p j z g (f z a)):Mk p (Oy x f) g:=by
 intro j z;show jw p j z g (Option.rec OR.no (λa=>f z a) ((M0 x).run j));cases A:(M0 x).run j with
 |none=>exact trivial
 |some a=>exact h _ _ _ A
def zrx{x y:Operand}{f:Heap→AV→AV→OR}{j:(Operand→Value)→Sem Next}(h:∀g z a b,(M0 x).run g=some a→(M0 y).run g=some b→jw p g z j (f z a b)):Mk p (R5 x y f) j:=by
 intro g z;show jw p g z j (Option.rec OR.no (λa=>Option.rec OR.no (λb=>f z a b) ((M0 y).run g)) ((M0 x).run g));cases A:(M0 x).run g with
 |none=>exact trivial
 |some a =>
  cases B:(M0 y).run g with
  |none=>exact trivial
  |some b=>exact h _ _ _ _ A B
def sb(B:Program)(t:TypeId)(x:Operand):Mk B (Nj B (.box t x)) (λC=>do pure (.value (←Instr.box t (C x)))):=by
 refine zn8 λD E a g=>?_
 cases j:a.cells with
 |none=>exact trivial
 |some l =>
  refine zmc (t:=t) (λF w C p=>?_);obtain⟨z,A⟩:=(p _ _ g).cells j;exact⟨_,z,A,by simp[Instr.box,newVar,newRow]⟩
def zql{C:CM}{w:World}(t:TypeId){l:List AV}{o len esz:Nat}{cs:Array Value}(_hl:True)(B:VRs C l cs.toList)(F:∀a∈l,a.one=true){cap:Nat}(I:cap*esz=l.length)(g:len≤cap)
  {D:Sem Next} (z:D.run p w=.ok (.value (.slice (some ⟨w.heap.size,0,none⟩) len cap)) (w.alloc (.cells cs t))):rz p C w D (.sl o 0 0 len esz (some cap)) (.cells (Ou l 0 .e) l.length 0 false):=by
 have j:l.length=cs.toList.length:=B.length;have A:l.length=cs.size:=Bd
 have E:len*esz≤cap*esz:=Hy _ g;refine Xo _hl B F z (λK id G=>?_);have:=VR.sl (i:=0) (len:=len) (esz:=esz) (room:=some cap) (cap:=cap) G Br Br g (λr H=>by cases H;exact⟨rfl,Br⟩) (λh=>Al);simpa [Ph] using this
def zjn(F:Program)(t:TypeId)(len:Nat)(j:Array (Nat×Operand)) :
  Mk F (lh F t len j) (λT=>do pure (.value (←Instr.buildSlice t len (j.map λ(i,x)=>(i,T x))))):=by
 unfold lh;split
 ·rename_i z hu;split
  ·exact bt F _
  ·rename_i g E;split
   ·exact bt F _
   ·rename_i gA V;split
    ·rename_i p;obtain⟨X,N⟩:=p;split
     ·exact bt F _
     ·rename_i ps G;intro gB gC;dsimp only;split
      ·rename_i l Y;split
       ·rename_i o H' Z;obtain⟨n1,O,rfl,rfl⟩:=zc4 Z;refine⟨_,n1,rfl,rfl,zjm O,λC w T hρ=>?_⟩;obtain⟨v,i,h1,h2,h3,h4⟩:=jc (w:=w) V;obtain⟨H,k2⟩:=V5 (C:=C) h2;have I:v.cells.size=g:=by
         have A:=H.length;unfold N7 at E;rw[h3]at E;simp at E A;omega
        have gg:gA.length=g:=by have A:=H.length;simp at A;omega
        have B:VRs C (R4 gA len) ((Array.range (len*g)).map λi=>v.cells[i%v.cells.size]!).toList:=by
         rw[←I,tx];exact l9 H len
        obtain⟨P,Q,R,q3⟩:=xl G hρ Y B (oj k2 len);have K:l.length=len*g:=by
         have A:=R.length;have e3:=zfl Q;simp at e3 A;omega
        refine zql z O R q3 K.symm (Hm _) ?_;have S:Instr.fill (λi=>some (i*g,g)) ((Array.range (len*g)).map λi=>v.cells[i%v.cells.size]!) (j.map λ(i,x)=>(i,T x)).toList=some P:=by
         rw[Ji];exact Q
        have D:¬(len*g>2^24):=J
        simp only[Instr.buildSlice,Sem.run_bind,Nm hu,Ri E,Result.andThen_ok,Sem.run_ite,Hq D];by_cases L:len*g=0
        ·rw[Hs L];have M:Instr.fill (λi=>some (i*g,g)) ((Array.range (len*g)).map λi=>(#[]:Array Value)[i%(#[]:Array Value).size]!) (j.map λ(i,x)=>(i,T x)).toList=some P:=by
          rw[←S,L,ke,ke]
         simp only[Sem.run_pure,Result.andThen_ok,M,newRow,Sem.run_bind,run_newObj];rfl
        ·rw[Hq L];simp only[Sem.run_bind,h1,Sem.run_pure,Result.andThen_ok,S,newRow,run_newObj];rfl
       ·exact trivial
      ·exact trivial
    ·exact bt F _
 ·exact bt F _
def zs4(z:Program)(t:TypeId)(l c:Operand):Mk z (ir z t l c) (λN=>do pure (.value (←Instr.makeSlice t (N l) (N c)))):=by
 unfold ir;split
 ·rename_i g hu;split
  ·exact bt z _
  ·rename_i i A;split
   ·exact bt z _
   ·rename_i gg X;split
    ·rename_i j;obtain⟨O,B⟩:=j;refine zrx λgA gB a b D E=>?_
     split
     ·rename_i x y;split
      ·rename_i F;split
       ·rename_i Y;split
        ·rename_i o H' Z;obtain⟨n1,P,rfl,rfl⟩:=zc4 Z;refine⟨_,n1,rfl,rfl,zjm P,λC w N Q=>?_⟩;have R:=Q _ _ D;have S:=Q _ _ E;have p:x≤y:=Hw F;have G:y≤1048576:=Hw Y;obtain⟨v,gC,h1,h2,T,h4⟩:=jc (w:=w) X;obtain⟨V,k2⟩:=V5 (C:=C) h2;rw[A]at T;cases T;have H:v.cells.size=i.size:=by have I:=V.length;simp at I;omega
         generalize K:N l=pl at R;generalize L:N c=pc at S;cases R;cases S;refine zql g P (cs:=(Array.range (y*i.size)).map λk=>v.cells[k%v.cells.size]!) (by rw[←H,tx];exact l9 V y) (oj k2 y) (by rw[z5r,h4]) p ?_;have I:IntKind.i64.wrap (Int.ofNat x)=Int.ofNat x:=Aw
         have e2:IntKind.i64.wrap (Int.ofNat y)=Int.ofNat y:=Aw
         have e3:i.bytes*y≤65536*1048576:=Kl B G;have e4:¬((decide (Int.ofNat y<0) || decide ((i.bytes:Int)*Int.ofNat y>2^48) || decide (Int.ofNat x<0) || decide (Int.ofNat x>Int.ofNat y))=true):=by
          have e5:((i.bytes:Int)*Int.ofNat y)=((i.bytes*y:Nat):Int):=U
          rw[e5];simp only[J3,Ht,not_or];refine⟨⟨⟨U,Ab⟩,U⟩,Ab⟩
         simp only[Instr.makeSlice,K,L,Sem.run_bind,Nm hu,aj A,asInt,asIntOf,Sem.run_pure,Result.andThen_ok,I,e2,Sem.run_ite,Hq e4,run_askRoom,Ri (show N7 z g=some i.size from by simp[N7,A])];have e6:(Int.ofNat y).toNat=y:=rfl;have e7:(Int.ofNat x).toNat=x:=rfl;rw[e6,e7];by_cases M:y*i.size=0
         ·rw[Hs M];simp only[Sem.run_pure,Result.andThen_ok,newRow,Sem.run_bind,run_newObj];have:((Array.range (y*i.size)).map λk=>(#[]:Array Value)[k%(#[]:Array Value).size]!)=((Array.range (y*i.size)).map λk=>v.cells[k%v.cells.size]!):=by rw[M,ke,ke]
          rw[this];rfl
         ·rw[Hq M];simp only[Sem.run_bind,h1,Sem.run_pure,Result.andThen_ok,newRow,run_newObj];rfl
        ·exact trivial
       ·exact trivial
      ·exact trivial
     ·exact trivial
    ·exact bt z _
 ·exact bt z _
def zj5{B:(Operand→Value)→Sem Next}
  (z:∀(C:CM) w D,km C F D→(B D).run p w=.ok (.value (.map (some w.heap.size))) (w.alloc (.map #[] 0))):jw p F A B (V2 A):=by
 unfold V2;refine⟨_,trivial,rfl,rfl,λI C w o E K g=>(by rw[E]at g;cases g),λC w D G=>?_⟩;refine⟨_,0,0,_,z C w D G,λL id M g=>⟨.map g,λI H K j=>?_⟩⟩;rw[g]at j;cases j;exact⟨H,#[],Wi _ _,.nil⟩
def Zj(p:Program)(t:TypeId)(r:Option Operand):Mk p (jo p t r) (λj=>do pure (.value (←Instr.makeMap t (r.map j)))):=by
 unfold jo;split
 ·intro B C;exact zj5 (λD w j g=>by simp[Instr.makeMap])
 ·rename_i x;split
  ·rename_i k e hu;refine zn8 λB C a z=>?_
   split
   ·refine zj5 (λD w j g=>?_);have:=g _ _ z;generalize A:j x=E at this;cases this;simp[Instr.makeMap,Nm hu,A,asInt,asIntOf]
   ·exact trivial
  ·exact bt p _
def zpm{P:Program}{o:Oper}(h:cls P o.op=.al):Mk P (Nj P o.op) (λj=>execOp j o):=by
 generalize g:o.op=op at h;cases op with
 |alloc t=>exact Mk.congr (λj=>by simp only[execOp,g]) (Yv P t)
 |box t x=>exact Mk.congr (λj=>Am) (sb P t x)
 |buildSlice t n p=>exact Mk.congr (λj=>Am) (zjn P t n p)
 |makeMap t r=>exact Mk.congr (λj=>Am) (Zj P t r)
 |makeSlice t l c=>exact Mk.congr (λj=>Am) (zs4 P t l c)
 |slice t _ _ _ _=>simp only[cls]at h;split at h<;>cases h
 |convert s d x=>simp only[cls]at h;split at h<;>first|(cases h;done)|(split at h<;>cases h)
 |call c =>
  simp only[cls,tz]at h;split at h
  ·split at h
   ·split at h<;>cases h
   ·cases h
  all_goals cases h
 |_=>cases h
def CM.lift(C:CM)(n:Nat):CM:=⟨C.f,n⟩
def CM.le_lift{C:CM}{n:Nat}(h:C.nx≤n):C.le (C.lift n):=⟨λ_ _ _ h=>h,h,λ_ v L h=>.inl ⟨v,L,h⟩⟩
inductive Ups:Heap→Heap→Prop where
 |refl (H:Heap):Ups H H
 |push {H H':Heap} {ob:AObj} (hl:True) (hf:zm ob) (h:Ups (H.push ob) H'):Ups H H'
def Ups.next{H H':Heap}(h:Ups H H'):H.next≤H'.next:=by
 induction h with
 |refl=>exact Hm _
 |push _ _ _ ih=>exact Ix (Kz _) ih
def Rel.up{w0:World}{gg:CM}{H:Heap}{w:World}(h:Rel w0 gg H w)(_:True){ob:AObj}(hf:zm ob):Rel w0 (gg.lift (H.next+1)) (H.push ob) w:=by
 have hle:gg.le (gg.lift (H.next+1)):=CM.le_lift (by rw[h.nx];exact Kz _);refine⟨rfl,h.low,λo v L hL=>?_,h.lt,h.excl,?_,?_⟩
 ·show o<H.next+1;have:=h.fresh o v L hL;omega
 ·intro o gA ho hg;by_cases e:o=H.next
  ·subst e;rw[Heap.get_push_same]at hg;cases hg;exact hf _ _ _ _ (λv=>h.next_none v)
  ·have C:o<H.next:=Bj
   rw[Heap.get_push_ne _ _ C]at hg;exact (h.obj _ _ C hg).frame hle (λv L hL=>hL) (λv L hL=>rfl)
 ·intro o c len gB ro ho hg v L hL;by_cases e:o=H.next
  ·subst e;have:=h.fresh _ _ _ hL;omega
  ·have C:o<H.next:=Bj
   rw[Heap.get_push_ne _ _ C]at hg;exact h.top _ _ _ _ _ C hg _ _ hL
def Rel.ups{w0:World}{H C:Heap}{w:World}(hu:Ups H C):∀{gg:CM},Rel w0 gg H w→Rel w0 (gg.lift C.next) C w:=by
 induction hu with
 |refl H=>intro gg h;rw[←h.nx];exact h
 |push hl hf _ ih =>
  intro gg h;have h1:=h.up hl hf;have h2:=ih h1;exact h2
def zmm{c:Tr AV}{len:Nat}(h:zo5 c F len=true):∀j,j<len→Mm (Mx j) c=Mm (Mx j) F:=by
 unfold zo5 at h;split at h
 ·rename_i l B C D;obtain⟨L,E⟩:=aq C;obtain⟨M,G⟩:=aq D;have H:l=B:=by
   have:∀(x y:List AV),Wq (Qf 30) x y=true→x=y:=by
    intro x
    induction x with
    |nil=>intro y g;cases y with
     |nil=>rfl
     |cons _ _=>cases g
    |cons c x I =>
     intro y g;cases y with
     |nil=>cases g
     |cons d y =>
      simp only[Wq]at g;split at g
      ·rename_i K;rw[eqAV_spec 30 c d K,I y g]
      ·cases g
   exact this _ _ h
  intro j p;have z:=E j p;have A:=G j p;rw[Is]at z A;rw[z,A,H]
 ·cases h
def Oq.eqObj{B:Nat}{gD:CM}{w:World}{o:Nat}{a b:AObj}(h:Sv.eqObj a b=true)(k:Oq B gD w o b):Oq B gD w o a:=by
 unfold Sv.eqObj at h;split at h
 ·rename_i c len gC ro c' gA gB gg;simp only[Hh]at h;obtain⟨⟨⟨h1,h2⟩,h3⟩,h4⟩:=h;obtain rfl:=Hn h1;obtain rfl:=Hn h2;obtain rfl:ro=gg:=by simpa using h3
  intro L hL;obtain⟨p1,p2,p3,vs,e,lo,C,p4,p5,p6,p7⟩:=k L hL;exact⟨p1,p2,p3,vs,e,lo,C,p4,p5,p6,λi C=>by rw[zmm h4 i C];exact p7 i C⟩
 ·obtain rfl:=Hn h;exact k
 ·cases h
def zif{b:Bool}{x y:v9}(g:b=true→x=y)(h:U2 b x y=true):x=y:=by
 unfold U2 at h;split at h
 ·exact g rfl
 ·exact @K9 _ (Classical.propDecidable _) h
def Xp{b:Bool}{x y:v9}(h:U2 b x y=true):b=true∨x=y:=by
 unfold U2 at h;split at h
 ·exact .inl rfl
 ·exact .inr (@K9 _ (Classical.propDecidable _) h)
def Oq.same{B:Nat}{C:CM}{w:World}{o:Nat}{a b:AObj}(h:U2 (Sv.eqObj a b) a b=true)(k:Oq B C w o b):Oq B C w o a:=by
 rcases Xp h with h|h
 ·exact k.eqObj h
 ·rw[h];exact k
def Rel.bind{w0:World}{gD:CM}{H:Heap}{w:World}(h:Rel w0 gD H w){id n sz:Nat}(gF:id<H.next)(hn:∀v,gD id v=none){ob:AObj}(hg:H.get id=some ob)(gB:Obj)
  (gE:Oq w0.heap.size (gD.ext id 0 ⟨w.heap.size,0,n,sz⟩) (w.alloc gB) id ob):Rel w0 (gD.ext id 0 ⟨w.heap.size,0,n,sz⟩) H (w.alloc gB)∧gD.keep (gD.ext id 0 ⟨w.heap.size,0,n,sz⟩):=by
 have hk:gD.keep (gD.ext id 0 ⟨w.heap.size,0,n,sz⟩):=λo' v' L' h'=>by
  by_cases e:o'=id∧v'=0
  ·obtain⟨rfl,rfl⟩:=e;rw[hn]at h';cases h'
  ·rw[CM.ext_ne gD _ e];exact h'
 refine⟨⟨by show max gD.nx (id+1)=H.next;rw[h.nx];omega,h.low.alloc h.low.size gB,?_,?_,?_,?_,?_⟩,hk⟩
 ·intro o v L C;by_cases e:o=id∧v=0
  ·omega
  ·rw[CM.ext_ne _ _ e]at C;exact h.fresh _ _ _ C
 ·intro o v L C;rw[World.size_alloc];by_cases e:o=id∧v=0
  ·obtain⟨rfl,rfl⟩:=e;rw[CM.ext_same]at C;cases C;exact Iv _
  ·rw[CM.ext_ne _ _ e]at C;have:=h.lt _ _ _ C;omega
 ·intro o v L o' v' L' C gg hb hB;by_cases e:o=id∧v=0<;>by_cases e':o'=id∧v'=0
  ·omega
  ·obtain⟨rfl,rfl⟩:=e;rw[CM.ext_same]at C;cases C;rw[CM.ext_ne _ _ e']at gg;have:=h.lt _ _ _ gg;dsimp at hb;omega
  ·obtain⟨rfl,rfl⟩:=e';rw[CM.ext_same]at gg;cases gg;rw[CM.ext_ne _ _ e]at C;have:=h.lt _ _ _ C;dsimp at hb;omega
  ·rw[CM.ext_ne _ _ e]at C;rw[CM.ext_ne _ _ e']at gg;exact h.excl _ _ _ _ _ _ C gg hb hB
 ·intro o gG ho gA;by_cases e:o=id
  ·subst e;rw[hg]at gA;cases gA;exact gE
  ·have gC:=h.obj _ _ ho gA;refine gC.frame' hk (λv L C=>?_) (λv L C=>xp _ _ (h.lt _ _ _ C))
   rwa [CM.ext_ne _ _ J]at C
 ·intro o c len gH ro ho gA v L C;by_cases e:o=id∧v=0
  ·omega
  ·rw[CM.ext_ne _ _ e]at C;exact h.top _ _ _ _ _ ho gA _ _ C
end
section
section n6
variable {P : Program} {n : Nat} {ops : Array Oper} {k : Pw} {L : List DOp} {E0 Ef : Tr AV}
def Uo(L:List DOp)(S:Nat→Prop)(t:Nat):Prop:=∃y∈L,S y.i∧y.o.dst=some t
open Classical in
noncomputable def ba(L:List DOp)(E0 Ef:Tr AV)(S:Nat→Prop)(t:Nat):Option AV:=if Uo L S t then Mm (Mx t) Ef else Mm (Mx t) E0
def Og(m:Nat)(g:Nat):Prop:=m.testBit g=true
def Wv(L:List DOp)(E0 Ef:Tr AV)(S:Nat→Prop)(g:Tr AV):Prop:=∀t,t≤M1→Mm (Mx t) g=ba L E0 Ef S t
def Ug(ops:Array Oper)(L:List DOp)(E0 Ef:Tr AV)(x:DOp)(E:Tr AV):Prop:=∀t∈S8 ops x.o,t≤M1→Mm (Mx t) E=ba L E0 Ef (Og x.m) t
def Q8(P:Program)(n:Nat)(ops:Array Oper)(k:Pw)(L:List DOp)(E0 Ef:Tr AV)(x:DOp)(p g:Heap):Prop :=
 ∀j,Ug ops L E0 Ef x j→∃v,(Py P n ops x.o).run k j p=.ok (N9 x.o.dst v j) g∧∀d,x.o.dst=some d→Mm (Mx d) Ef=some v∧d<n
def DC(L:List DOp)(S:Nat→Prop):Prop:=∀y∈L,S y.i→∀g,Og y.m g→S g
structure Fit (P:Program) (ops:Array Oper) (L:List DOp):Prop where
 ok:LOk P ops L
 dst:∀x∈L,∀y∈L,∀d,x.o.dst=some d→y.o.dst=some d→x=y
 look:∀x∈L,∀y∈L,zpb x y=true
def zp6{x y:DOp}(h:zpb x y=true){d:Nat}(hd:y.o.dst=some d)(g:x.lm.testBit d=true) :
  (x.i=y.i∧Sn x=false)∨(x.i≠y.i∧(Og x.m y.i∨(Og y.m x.i∧Sn x=false))):=by
 unfold zpb at h;rw[hd]at h;dsimp only at h;rw[g]at h;dsimp only at h;split at h
 ·rename_i e;exact .inl ⟨Hn e,Ay⟩
 ·rename_i e;refine .inr ⟨λq=>?_,?_⟩
  ·rw[q,Ii]at e;cases e
  ·split at h
   ·rename_i q;exact .inl q
   ·split at h
    ·rename_i q;exact .inr ⟨q,Ay⟩
    ·cases h
def Y7(G:Fit P ops L){S:Nat→Prop}(B:DC L S){x:DOp}(A:x∈L)(hm:∀H,Og x.m H→S H)(g:¬S x.i∨Sn x=true)(C:Wv L E0 Ef S F):Ug ops L E0 Ef x F:=by
 intro t D E;rw[C t E];unfold ba;have:Uo L S t↔Uo L (Og x.m) t:=by
  constructor
  ·rintro⟨y,j,z,hd⟩;refine⟨y,j,?_,hd⟩;rcases zp6 (G.look x A y j) hd (G.ok.lm x A t D) with ⟨e,p⟩|⟨_,h|⟨h,p⟩⟩
   ·rcases g with g|g
    ·rw[e]at g;exact absurd z g
    ·rw[g]at p;cases p
   ·exact h
   ·rcases g with g|g
    ·exact absurd (B y j z _ h) g
    ·rw[g]at p;cases p
  ·rintro⟨y,j,z,hd⟩;exact⟨y,j,hm _ z,hd⟩
 by_cases h:Uo L S t
 ·rw[Hs h,Hs (this.1 h)]
 ·rw[Hq h,Hq (λq=>h (this.2 q))]
def Ug.same{x:DOp}{E:Tr AV}(h:Ug ops L E0 Ef x E)(h':Ug ops L E0 Ef x vY):Qx (S8 ops x.o) vY E:=λt ht hl=>by rw[h t ht hl,h' t ht hl]
def br(d:Tmp)(v:AV)(g:Tr AV):Mm (Mx d) (N9 (some d) v g)=some v:=z9l _ _ _
def z91{x:DOp}{E1:Tr AV}(h:(Py P n ops x.o).run k F A=.ok E1 S)(p:Ug ops L E0 Ef x F)
  (z:∀d,x.o.dst=some d→d<n→Mm (Mx d) Ef=Mm (Mx d) E1):Q8 P n ops k L E0 Ef x A S:=by
 obtain⟨v,B,j,C⟩:=z5l h;intro D g;refine⟨v,C D (p.same g),λd hd=>⟨?_,j d hd⟩⟩;rw[z d hd (j d hd),B,hd,br]
def Wv.put(F:Fit P ops L)(_hn:n≤M1){S:Nat→Prop}{E:Tr AV}(h:Wv L E0 Ef S E){x:DOp}(hx:x∈L){v:AV}(hv:∀d,x.o.dst=some d→Mm (Mx d) Ef=some v∧d<n) :
  Wv L E0 Ef (λj=>S j∨j=x.i) (N9 x.o.dst v E):=by
 intro t ht;have key:Uo L (λj=>S j∨j=x.i) t↔(Uo L S t∨x.o.dst=some t):=by
  constructor
  ·rintro⟨y,hy,hs|hs,hd⟩
   ·exact .inl ⟨y,hy,hs,hd⟩
   ·rw[F.ok.inj y hy x hx hs]at hd;exact .inr hd
  ·rintro (⟨y,hy,hs,hd⟩|hd)
   ·exact⟨y,hy,.inl hs,hd⟩
   ·exact⟨x,hx,.inr rfl,hd⟩
 unfold ba;cases hd:x.o.dst with
 |none =>
  rw[hd]at key;have:Uo L (λj=>S j∨j=x.i) t↔Uo L S t:=by rw[key];simp
  rw[show N9 none v E=E from rfl,h t ht];unfold ba;by_cases q:Uo L S t
  ·rw[Hs q,Hs (this.2 q)]
  ·rw[Hq q,Hq (λz=>q (this.1 z))]
 |some d =>
  rw[hd]at key;obtain⟨gg,gA⟩:=hv d hd;rw[show N9 (some d) v E=Nv v (Mx d) E from rfl,x5];by_cases e:t=d
  ·subst e;rw[Hs rfl,Hs (key.2 (.inr rfl)),gg]
  ·rw[Hq e,h t ht];unfold ba;have:Uo L (λj=>S j∨j=x.i) t↔Uo L S t:=by
    rw[key];constructor
    ·rintro (q|q)
     ·exact q
     ·exact absurd (Option.some.inj q).symm e
    ·exact .inl
   by_cases q:Uo L S t
   ·rw[Hs q,Hs (this.2 q)]
   ·rw[Hq q,Hq (λz=>q (this.1 z))]
def zcm{r:OE}{f:Tr AV→Heap→OE}(h:(OE.rec .no f r:OE)=.ok F A):∃g j,r=.ok g j∧f g j=.ok F A:=by
 cases r with
 |no=>cases h
 |ok g j=>exact⟨g,j,rfl,h⟩
def z8t{b:Bool}{r:OE}(h:(Bool.rec .no r b:OE)=.ok F A):b=true∧r=.ok F A:=by
 cases b with
 |false=>cases h
 |true=>exact⟨rfl,h⟩
def zge{x:DOp}{l g:List DOp}(h:(Tc P n ops (x::l) g).run k F A=.ok vY S) :
  ∃p z j,(Py P n ops x.o).run k F A=.ok p z∧(Tc P n ops l j).run k p z=.ok vY S ∧
   ((x.c=.quiet∧j=g)∨(x.c=.rd∧j=x::g)∨(x.c=.al∧j=x::g∧(gr P ops (x::g)).run p z=true) ∨
    (x.c=.ch∧j=Nd (λy=>!(Nat.testBit x.m y.i)) g∧(gr P ops j).run p z=true)):=by
 simp only[Tc]at h;split at h
 ·rename_i C;obtain⟨p,z,D,B⟩:=zcm h;exact⟨p,z,g,D,B,.inl ⟨C,rfl⟩⟩
 ·rename_i C;obtain⟨p,z,D,B⟩:=zcm h;exact⟨p,z,x::g,D,B,.inr (.inl ⟨C,rfl⟩)⟩
 ·rename_i C;obtain⟨p,z,D,B⟩:=zcm h;obtain⟨E,B⟩:=z8t B;exact⟨p,z,x::g,D,B,.inr (.inr (.inl ⟨C,rfl,E⟩))⟩
 ·rename_i C;obtain⟨p,z,D,B⟩:=zcm h;obtain⟨E,B⟩:=z8t B;exact⟨p,z,_,D,B,.inr (.inr (.inr ⟨C,rfl,E⟩))⟩
def zec(C:n≤M1){d:Nat}(hd:d≤M1):∀{l g:List DOp} {z j:Tr AV} {H A:Heap},(Tc P n ops l g).run k z H=.ok j A→(∀y∈l,y.o.dst≠some d)→Mm (Mx d) j=Mm (Mx d) z
 |[],_,_,_,_,_,h,_=>Bw
 |x::l,g,z,j,H,A,h,B=>by
  obtain⟨I,K,p,D,E,_⟩:=zge h;rw[zec C hd E (λy q=>B y (by simp[q]))];obtain⟨v,F,M,_⟩:=z5l D;rw[F];cases G:x.o.dst with
  |none=>rfl
  |some e =>
   rw[show N9 (some e) v z=Nv v (Mx e) z from rfl,ou];intro q;subst q;exact B x U G
def rechecks_mem:∀{l:List DOp} {j:Tr AV} {p:Heap},(gr P ops l).run j p=true→∀x∈l,(Wy P ops x).run j p=true
 |[],_,_,_,x,g=>Do
 |y::l,j,p,h,x,g=>by
  simp only[gr]at h;split at h
  ·rename_i z;rcases Hu.1 g with rfl|g
   ·exact z
   ·exact rechecks_mem h x g
  ·cases h
def zmz(T:Fit P ops L){x:DOp}(M:x∈L)(D:x.c=.rd)(E:Ug ops L E0 Ef x F)(N:Q8 P n ops k L E0 Ef x A A)(O:∀d,x.o.dst=some d→Mm (Mx d) Ef=Mm (Mx d) F)
  (h:(Wy P ops x).run F S=true):Q8 P n ops k L E0 Ef x S S:=by
 have B:Vi (Nj P x.o.op):=tr.2 (by rw[←T.ok.cl x M];exact D);obtain⟨v,g,Q⟩:=N F E;unfold Wy at h;cases hd:x.o.dst with
 |none=>rw[hd]at h;cases h
 |some d =>
  rw[hd]at h g;dsimp only at h;obtain⟨G,C⟩:=Q d hd;have R:P7 n (some d)=some ⟨λa F=>Nv a (Mx d) F⟩:=by unfold P7;dsimp only;rw[Hs C]
  have j:(Py P n ops x.o).run k F S=.ok (N9 (some d) v F) S:=by
   unfold Py at g ⊢;rw[hd,R]at g ⊢;dsimp only at g ⊢;cases H:(Rh ops x.o).run F with
   |false =>
    rw[H]at g;dsimp only at g ⊢;injection g with g
    rw[g]
   |true =>
    rw[H]at h g;dsimp only at h g ⊢;rw[←O d hd,G]at h;dsimp only at h;have I:=B F S;cases z:(Nj P x.o.op).run F S with
    |no=>rw[z]at h;cases h
    |call t K=>rw[z]at h;cases h
    |val V X =>
     rw[z,D]at h;rw[z]at I;dsimp only at h ⊢;cases I;rw[zif (eqAV_spec _ _ _) h];rfl
  refine z91 j E (λY p _=>?_);rw[hd]at p;cases p;rw[br,G]
def Qb(P:Program)(n:Nat)(ops:Array Oper)(k:Pw)(L:List DOp)(E0 Ef:Tr AV)(x:DOp):Prop:=∀g,Q8 P n ops k L E0 Ef x g g
noncomputable def Pq(Ef:Tr AV)(x:DOp):Nat:=((x.o.dst.bind λd=>Mm (Mx d) Ef).bind Nf).getD 0
def Zk(P:Program)(n:Nat)(ops:Array Oper)(L:List DOp)(E0 Ef:Tr AV)(x:DOp)(g:Heap):Prop :=
 ∃d j,x.o.dst=some d∧d<n∧Mm (Mx d) Ef=some j∧Nf j=some (Pq Ef x)∧∀A,Ug ops L E0 Ef x A→(Rh ops x.o).run A=true ∧
  ∃p z,(Nj P x.o.op).run A g=.val p z∧j=Ph (Pq Ef x) p∧∃a b,g.get (Pq Ef x)=some a∧z.get g.next=some b∧U2 (eqObj a b) a b=true
def z7c{x:DOp}(g:Qx (S8 ops x.o) vY F):(Nj P x.o.op).run vY A=(Nj P x.o.op).run F A :=
 zh6 (Qx.opds (λt j=>g t (by simp[S8,j])))
def zuf{x:DOp}(C:x.c=.al)(K:Ug ops L E0 Ef x F)(M:(Rh ops x.o).run F=true){d:Nat}(hd:x.o.dst=some d)(E:d<n)(N:Mm (Mx d) Ef=some D)
  (R:Mm (Mx d) F=some D) (h:(Wy P ops x).run F A=true):Zk P n ops L E0 Ef x A:=by
 unfold Wy at h;rw[hd]at h;dsimp only at h;rw[M,R]at h;dsimp only at h;cases z:(Nj P x.o.op).run F A with
 |no=>rw[z]at h;cases h
 |call t O=>rw[z]at h;cases h
 |val G Q =>
  rw[z,C]at h;dsimp only at h;unfold ztd at h;cases j:Nf D with
  |none=>rw[j]at h;cases h
  |some id =>
   rw[j]at h;dsimp only at h;have g:Pq Ef x=id:=by unfold Pq;rw[hd];simp[N,j]
   cases H:U2 (Qf 30 D (Ph id G)) D (Ph id G) with
   |false=>rw[H]at h;cases h
   |true =>
    rw[H]at h;dsimp only at h;cases B:A.get id with
    |none=>rw[B]at h;cases h
    |some a =>
     cases I:Q.get A.next with
     |none=>rw[B,I]at h;cases h
     |some b =>
      rw[B,I]at h;refine⟨d,D,hd,E,N,by rw[g,j],λS p=>⟨by rw[iq (K.same p)];exact M,G,Q,by rw[z7c (K.same p)];exact z,by rw[g];exact zif (eqAV_spec _ _ _) H,a,b,by rw[g];exact B,I,h⟩⟩
def X0(gg:Fit P ops L){x:DOp}(R:x∈L)(p:x.c=.al){E1:Tr AV}(h:(Py P n ops x.o).run k F A=.ok E1 S)(M:Ug ops L E0 Ef x F)(z:Ug ops L E0 Ef x E1)
  (N:∀d,x.o.dst=some d→d<n→Mm (Mx d) Ef=Mm (Mx d) E1) (g:(Wy P ops x).run E1 S=true) :
  (Qb P n ops k L E0 Ef x∧S=A)∨(∃E,True∧S=A.push E∧zm E∧Pq Ef x=A.next∧Zk P n ops L E0 Ef x S):=by
 have j:=zpm (P:=P) (o:=x.o) (by rw[←gg.ok.cl x R];exact p) F A;have h0:=h;unfold Py at h;cases G:P7 n x.o.dst with
 |none=>rw[G]at h;cases h
 |some Z =>
  rw[G]at h;dsimp only at h;obtain⟨B,I⟩:=vu G;cases H:(Rh ops x.o).run F with
  |false =>
   rw[H]at h;cases h;refine .inl ⟨λT=>?_,rfl⟩;refine z91 (E1:=Z.run Qv F) ?_ M N;unfold Py;rw[G];dsimp only;rw[H]
  |true =>
   rw[H]at h;dsimp only at h;cases K:(Nj P x.o.op).run F A with
   |no=>rw[K]at h;cases h
   |call t O=>rw[K]at j;exact j.elim
   |val v T =>
    rw[K]at h j;cases h;obtain⟨E,V,rfl,X,Y,_⟩:=j;cases hd:x.o.dst with
    |none =>
     unfold Wy at g;rw[hd]at g;cases g
    |some d =>
     have C:=I d hd;have D:Mm (Mx d) (Z.run v F)=some v:=by rw[B,hd,br]
     have Q:Mm (Mx d) Ef=some v:=by rw[N d hd C,D]
     refine .inr ⟨E,V,rfl,Y,?_,zuf p z (by rw[iq (M.same z)];exact H) hd C Q D g⟩;unfold Pq;rw[hd];simp[Q,X]
def zh(P:Program)(n:Nat)(ops:Array Oper)(k:Pw)(L:List DOp)(E0 Ef:Tr AV)(x:DOp)(g:Heap):Prop :=
 (x.c=.rd∧Q8 P n ops k L E0 Ef x g g)∨(x.c=.al∧(Qb P n ops k L E0 Ef x∨Zk P n ops L E0 Ef x g))
def zl7(H:Fit P ops L){x:DOp}(D:x∈L)(p:Ug ops L E0 Ef x F)(g:zh P n ops k L E0 Ef x A)(z:∀d,x.o.dst=some d→Mm (Mx d) Ef=Mm (Mx d) F)
  (h:(Wy P ops x).run F S=true):zh P n ops k L E0 Ef x S:=by
 rcases g with ⟨j,g⟩|⟨j,g|g⟩
 ·exact .inl ⟨j,zmz H D j p g z h⟩
 ·exact .inr ⟨j,.inl g⟩
 ·obtain⟨d,I,B,E,C,_,G⟩:=g;exact .inr ⟨j,.inr (zuf j p (G F p).1 B E C (by rw[←z d B];exact C) h)⟩
def yb(P:Program)(n:Nat)(ops:Array Oper)(L:List DOp)(E0 Ef:Tr AV)(ch:List DOp)(p g:Nat→Heap)(x:DOp)(r:Nat):Prop :=
 r≤ch.length∧(∀q c,q<r→ch[q]?=some c→Og x.m c.i)∧(p r).next≤Pq Ef x∧Pq Ef x<(g r).next ∧
  ∀j,r≤j→j≤ch.length→(∀q c,r≤q→q<j→ch[q]?=some c→¬Og c.m x.i)→Zk P n ops L E0 Ef x (g j)
def n6(gZ:Fit P ops L)(hn:n≤M1):∀(l D:List DOp) (seen F s:Nat) (jD:Tr AV) (gV H':Heap),(Tc P n ops l D).run k jD gV=.ok Ef H'→Of l seen F=some s→(∀x∈l,x∈L) →
  (∀x∈D,x∈L∧Sn x=true∧Og seen x.i∧(∀d,x.o.dst=some d→d<n)∧zh P n ops k L E0 Ef x gV)→Wv L E0 Ef (Og seen) jD→DC L (Og seen) →
  Wv L E0 Ef (Og s) Ef∧DC L (Og s) ∧
  ∃(Hb Q:Nat→Heap) (R:Nat→Nat),Hb 0=gV∧Q (Nd Mp l).length=H'∧(∀G,G≤(Nd Mp l).length→Ups (Hb G) (Q G)) ∧
   (∀q c,(Nd Mp l)[q]?=some c→Q8 P n ops k L E0 Ef c (Q q) (Hb (q+1))) ∧
   (∀x∈l,x.c=.rd→∃r,r≤(Nd Mp l).length∧(∀q c,q<r→(Nd Mp l)[q]?=some c→Og x.m c.i)∧∀G,r≤G→G≤(Nd Mp l).length→(∀q c,r≤q→q<G→(Nd Mp l)[q]?=some c→¬Og c.m x.i)→Q8 P n ops k L E0 Ef x (Q G) (Q G)) ∧
   (∀x∈l,x.c=.quiet→∀H2,Q8 P n ops k L E0 Ef x H2 H2) ∧
   (∀x∈l,x.c=.al→Qb P n ops k L E0 Ef x∨yb P n ops L E0 Ef (Nd Mp l) Hb Q x (R x.i)) ∧
   (∀x∈l,∀y∈l,x.c=.al→y.c=.al→¬Qb P n ops k L E0 Ef x→¬Qb P n ops k L E0 Ef y→R x.i=R y.i→Pq Ef x=Pq Ef y→x=y) ∧
   (∀x∈D,∀G,G≤(Nd Mp l).length→(∀q c,q<G→(Nd Mp l)[q]?=some c→¬Og c.m x.i)→zh P n ops k L E0 Ef x (Q G))
 |[],D,seen,F,s,jD,gV,H',h,ht,hl,hp,hE,hD=>by
  cases h;simp only[Of,Option.some.injEq]at ht;subst ht;refine⟨hE,hD,λ_=>gV,λ_=>gV,λ_=>0,rfl,rfl,λ_ _=>.refl _,λq c K=>(by cases K),λx E=>(by cases E),λx E=>(by cases E),λx E=>(by cases E),λx E=>(by cases E),λx E G _ _=>(hp x E).2.2.2.2⟩
 |x::l,D,seen,F,s,jD,gV,H',h,ht,hl,hp,hE,hD=>by
  obtain⟨E1,Y,S,h1,h2,h3⟩:=zge h;obtain⟨t1,t2,Z⟩:=tu ht;have E:x∈L:=hl x U;have g8:Ug ops L E0 Ef x jD:=Y7 gZ hD E t1 (.inl (by unfold Og;rw[t2];simp)) hE;have gO:∀y∈l,y.i≠x.i:=by
   have jE:∀gP,Of l (Nat.lor (2^x.i) seen) gP=some s→∀y∈l,y.i≠x.i:=λgP h' y j e=>by
    have:=topo_new h' y j;rw[Wr,de,e]at this;simp at this
   rcases Z with ⟨_,h3⟩|⟨_,_,h3⟩|⟨_,_,h3⟩<;>exact jE _ h3
  obtain⟨v,s1,s2,s3⟩:=z5l h1;have V:∀d,x.o.dst=some d→d<n→Mm (Mx d) Ef=Mm (Mx d) E1:=λd hd jF =>
   zec hn (Ix (L6 jF) hn) h2 (λy j e=>gO y j (by rw[gZ.dst y (hl y As) x E d e hd]))
  have gB:Q8 P n ops k L E0 Ef x gV Y:=z91 h1 g8 V;have hS:(Og (Nat.lor (2^x.i) seen))=λg9=>Og seen g9∨g9=x.i:=by
   funext g9
   unfold Og;rw[Wr,de];simp only[J3,Ht,eq_iff_iff];constructor
   ·rintro (e|e)
    ·exact .inr e.symm
    ·exact .inl e
   ·rintro (e|e)
    ·exact .inr e
    ·exact .inl e.symm
  have gg:Wv L E0 Ef (Og (Nat.lor (2^x.i) seen)) E1:=by
   rw[hS,s1];refine hE.put gZ hn E (λd hd=>⟨?_,s2 d hd⟩);rw[V d hd (s2 d hd),s1,hd,br]
  have gA:DC L (Og (Nat.lor (2^x.i) seen)):=by
   rw[hS];rintro y j (hs|hs) g9 hj
   ·exact .inl (hD y j hs g9 hj)
   ·rw[gZ.ok.inj y j x E hs]at hj;exact .inl (t1 g9 hj)
  have gI:∀y∈l,y∈L:=λy j=>hl y As
  have H:Og (Nat.lor (2^x.i) seen) x.i:=by rw[hS];exact .inr rfl
  have z:∀g9,Og seen g9→Og (Nat.lor (2^x.i) seen) g9:=λg9 hj=>by rw[hS];exact .inl hj
  have I:∀y,y∈L→Sn y=true→Og (Nat.lor (2^x.i) seen) y.i→Ug ops L E0 Ef y E1:=λy a b c=>Y7 gZ gA a (λg9 hj=>gA y a c g9 hj) (.inr b) gg
  have gQ:∀y,y∈L→Og (Nat.lor (2^x.i) seen) y.i→(∀d,y.o.dst=some d→d<n)→∀d,y.o.dst=some d→Mm (Mx d) Ef=Mm (Mx d) E1:=λy a c hd e he=>by
   rw[gg e (Ix (L6 (hd e he)) hn)];unfold ba;rw[Hs ⟨y,a,c,he⟩]
  rcases h3 with ⟨p,rfl⟩|⟨p,rfl⟩|⟨p,rfl,gK⟩|⟨p,jp,gK⟩
  ·
   have N:Of l (Nat.lor (2^x.i) seen) F=some s:=by
    rcases Z with ⟨_,Z⟩|⟨e,_⟩|⟨e,_⟩
    ·exact Z
    ·rw[p]at e;rcases e with e|e<;>cases e
    ·rw[p]at e;cases e
   have K:R6 (Nj P x.o.op):=tr.1 (by rw[←gZ.ok.cl x E];exact p);have hH:Y=gV:=z5t K.reads h1;subst hH;have hf:Nd Mp (x::l)=Nd Mp l:=B7
   obtain⟨r0,T,Hb,Q,R,r1,r2,ru,r3,r4,r5,ra,ri,r6⟩:=n6 gZ hn l S _ F s E1 Y H' h2 N gI (λy j=>let ⟨a,b,c,d⟩:=hp y j;⟨a,b,z _ c,d⟩) gg gA;rw[hf];refine⟨r0,T,Hb,Q,R,r1,r2,ru,r3,λy j g=>?_,λy j g H2=>?_,λy j g=>?_,λy j jB X g B=>?_,r6⟩
   ·rcases Hu.1 j with rfl|j
    ·rw[p]at g;cases g
    ·exact r4 y j g
   ·rcases Hu.1 j with rfl|j
    ·exact z91 (zhu K h1 H2) g8 V
    ·exact r5 y j g H2
   ·rcases Hu.1 j with rfl|j
    ·rw[p]at g;cases g
    ·exact ra y j g
   ·rcases Hu.1 j with rfl|j
    ·rw[p]at g;cases g
    ·rcases Hu.1 X with rfl|X
     ·rw[p]at B;cases B
     ·exact ri y j jB X g B
  ·
   have N:Of l (Nat.lor (2^x.i) seen) F=some s:=by
    rcases Z with ⟨e,_⟩|⟨_,_,Z⟩|⟨e,_⟩
    ·rw[p]at e;cases e
    ·exact Z
    ·rw[p]at e;cases e
   have K:Vi (Nj P x.o.op):=tr.2 (by rw[←gZ.ok.cl x E];exact p);have hH:Y=gV:=z5t K h1;subst hH;have hf:Nd Mp (x::l)=Nd Mp l:=B7
   obtain⟨r0,T,Hb,Q,R,r1,r2,ru,r3,r4,r5,ra,ri,r6⟩:=n6 gZ hn l (x::D) _ F s E1 Y H' h2 N gI (λy j=>by
    rcases Hu.1 j with rfl|j
    ·exact⟨E,by unfold Sn;rw[p],H,s2,.inl ⟨p,gB⟩⟩
    ·obtain⟨a,b,c,d⟩:=hp y j;exact⟨a,b,z _ c,d⟩) gg gA
   rw[hf];refine⟨r0,T,Hb,Q,R,r1,r2,ru,r3,λy j g=>?_,λy j g H2=>?_,λy j g=>?_,λy j jB X g B=>?_,λy j=>r6 y As⟩
   ·rcases Hu.1 j with rfl|j
    ·refine⟨0,Kn _,λq c K=>absurd K (Lz q),λG _ A C=>?_⟩;rcases r6 y U G A (λq c K=>C q c (Kn q) K) with ⟨_,h⟩|⟨h,_⟩
     ·exact h
     ·rw[p]at h;cases h
    ·exact r4 y j g
   ·rcases Hu.1 j with rfl|j
    ·rw[p]at g;cases g
    ·exact r5 y j g H2
   ·rcases Hu.1 j with rfl|j
    ·rw[p]at g;cases g
    ·exact ra y j g
   ·rcases Hu.1 j with rfl|j
    ·rw[p]at g;cases g
    ·rcases Hu.1 X with rfl|X
     ·rw[p]at B;cases B
     ·exact ri y j jB X g B
  ·
   have N:Of l (Nat.lor (2^x.i) seen) F=some s:=by
    rcases Z with ⟨e,_⟩|⟨_,_,Z⟩|⟨e,_⟩
    ·rw[p]at e;cases e
    ·exact Z
    ·rw[p]at e;cases e
   have gC:Sn x=true:=by unfold Sn;rw[p]
   have hf:Nd Mp (x::l)=Nd Mp l:=B7
   have gD:=X0 gZ E p h1 g8 (I x E gC H) V (rechecks_mem gK x U);have jG:zh P n ops k L E0 Ef x Y:=by
    rcases gD with ⟨h,_⟩|⟨_,_,_,_,_,h⟩
    ·exact .inr ⟨p,.inl h⟩
    ·exact .inr ⟨p,.inr h⟩
   obtain⟨r0,T,Hb,Q,R,r1,r2,ru,r3,r4,r5,ra,ri,r6⟩:=n6 gZ hn l (x::D) _ F s E1 Y H' h2 N gI (λy j=>by
    rcases Hu.1 j with rfl|jH
    ·exact⟨E,gC,H,s2,jG⟩
    ·obtain⟨a,b,c,d,e⟩:=hp y jH;exact⟨a,b,z _ c,d,zl7 gZ a (I y a b (z _ c)) e (gQ y a (z _ c) d) (rechecks_mem gK y j)⟩) gg gA
   rw[hf];have gR:Ups gV Y:=by
    rcases gD with ⟨_,rfl⟩|⟨ob,q1,rfl,q3,_⟩
    ·exact .refl _
    ·exact .push q1 q3 (.refl _)
   have gL:Ups Y (Q 0):=by rw[←r1];exact ru 0 (Kn _)
   have jI:∀{jQ jR jS:Heap},Ups jQ jR→Ups jR jS→Ups jQ jS:=λ{jQ jR jS} h1=>by
    induction h1 with
    |refl=>exact id
    |push a b _ ih=>exact λh=>.push a b (ih h)
   have O:∀y∈l,(if y.i=x.i then 0 else R y.i)=R y.i:=λy j=>Hq (gO y j)
   refine⟨r0,T,λG=>match G with
    |0=>gV
    |G+1=>Hb (G+1),Q,λi=>if i=x.i then 0 else R i,rfl,r2,λG A=>?_,r3,λy j g=>?_,λy j g H2=>?_,λy j g=>?_,λy j jB X g B gE gF M gG=>?_,λy j G A C=>?_⟩
   ·cases G with
    |zero=>exact jI gR gL
    |succ G=>exact ru (G+1) A
   ·rcases Hu.1 j with rfl|j
    ·rw[p]at g;cases g
    ·exact r4 y j g
   ·rcases Hu.1 j with rfl|j
    ·rw[p]at g;cases g
    ·exact r5 y j g H2
   ·rcases Hu.1 j with rfl|j
    ·rcases gD with ⟨h,_⟩|⟨ob,q1,q2,q3,q4,q5⟩
     ·exact .inl h
     ·refine .inr ?_;dsimp only;rw[Hs rfl];refine⟨Kn _,λq c K=>absurd K (Lz q),K3 q4.symm,?_,λG _ A C=>?_⟩
      ·have:=gL.next;rw[q2]at this;rw[q4];exact Ik (Iv _) this
      ·rcases r6 y U G A (λq c K=>C q c (Kn q) K) with ⟨h,_⟩|⟨_,h|h⟩
       ·rw[p]at h;cases h
       ·obtain⟨d,v0,g1,g2,g3,g4,g5⟩:=q5;exfalso;obtain⟨w1,w2,_⟩:=h Y E1 (I y E gC H);obtain⟨g6,_⟩:=g5 E1 (I y E gC H);have jz:=zpm (P:=P) (o:=y.o) (by rw[←gZ.ok.cl y E];exact p) E1 Y;obtain⟨_,v',jT,g7,_⟩:=g5 E1 (I y E gC H);rw[g7]at jz;obtain⟨jV,m1,m2,_⟩:=jz;unfold Py at w2;have A:P7 n y.o.dst=some ⟨λa jD=>Nv a (Mx d) jD⟩:=by rw[g1];unfold P7;dsimp only;rw[Hs g2]
        rw[A]at w2;dsimp only at w2;rw[g6,g7]at w2;dsimp only at w2;injection w2 with _ w2
        rw[m2]at w2;have:=congrArg Heap.next w2;simp[Heap.push]at this
       ·exact h
    ·dsimp only;rw[O y j];refine (ra y j g).imp id λ⟨a1,a2,a3,a4,a5⟩=>⟨a1,a2,?_,a4,a5⟩
     generalize R y.i=r at a3;cases r with
     |zero =>
      rw[r1]at a3;exact Ix gR.next a3
     |succ r=>exact a3
   ·dsimp only at M;have gS:∀u∈l,u.c=.al→¬Qb P n ops k L E0 Ef u→R u.i=0→∀ob,Y=gV.push ob→Pq Ef u=gV.next→False:=λu hu jK jL gL ob he jA=>by
     rcases ra u hu jK with h|⟨_,_,a3,_⟩
     ·exact jL h
     ·rw[gL,r1,he,jA]at a3;exact absurd a3 (Nat.not_succ_le_self _)
    rcases Hu.1 j with ey|gM
    ·rcases Hu.1 X with ez|gH
     ·rw[ey,ez]
     ·subst ey;rw[Hs rfl,O jB gH]at M;rcases gD with ⟨h,_⟩|⟨ob,q1,q2,q3,q4,q5⟩
      ·exact absurd h gE
      ·exact (gS jB gH B gF M.symm ob q2 (by rw[←gG,q4])).elim
    ·rcases Hu.1 X with ez|gH
     ·subst ez;rw[Hs rfl,O y gM]at M;rcases gD with ⟨h,_⟩|⟨ob,q1,q2,q3,q4,q5⟩
      ·exact absurd h gF
      ·exact (gS y gM g gE M ob q2 (by rw[gG,q4])).elim
     ·rw[O y gM,O jB gH]at M;exact ri y gM jB gH g B gE gF M gG
   ·exact r6 y As G A C
  ·
   obtain⟨tc,N⟩:(∀g9,F.testBit g9=true→x.m.testBit g9=true)∧Of l (Nat.lor (2^x.i) seen) (Nat.lor (2^x.i) F)=some s:=by
    rcases Z with ⟨e,_⟩|⟨e,_⟩|⟨_,Z⟩
    ·rw[p]at e;cases e
    ·rw[p]at e;rcases e with e|e<;>cases e
    ·exact Z
   have hf:Nd Mp (x::l)=x::Nd Mp l:=B7
   have jN:∀y∈S,y∈D∧¬Og x.m y.i:=λy j=>by
    rw[jp]at j;obtain⟨a,b⟩:=Wm.1 j;exact⟨a,by unfold Og;simpa using b⟩
   obtain⟨r0,T,Hb,Q,R,r1,r2,ru,r3,r4,r5,ra,ri,r6⟩:=n6 gZ hn l S _ _ s E1 Y H' h2 N gI (λy j=>by
    obtain⟨a,b,c,d,e⟩:=hp y (jN y j).1;exact⟨a,b,z _ c,d,zl7 gZ a (I y a b (z _ c)) e (gQ y a (z _ c) d) (rechecks_mem gK y j)⟩) gg gA
   rw[hf];have gT:∀y∈l,y.c≠.quiet→∀r,(∀q c,q<r→(Nd Mp l)[q]?=some c→Og y.m c.i)→∀q c,q<r+1→(x::Nd Mp l)[q]?=some c→Og y.m c.i:=λy j g r u1 q c K jg=>by
    cases q with
    |zero =>
     simp only[H6,Option.some.injEq]at jg;subst jg;refine topo_chs N y j g _ ?_;rw[Wr,de];simp
    |succ q=>exact u1 q c J (by simpa using jg)
   refine⟨r0,T,λq=>match q with
    |0=>gV
    |q+1=>Hb q,λq=>match q with
    |0=>gV
    |q+1=>Q q,λi=>R i+1,rfl,r2,λG A=>?_,λq c K=>?_,λy j g=>?_,λy j g H2=>?_,λy j g=>?_,λy j jB X g B gE gF M gG=>?_,λy j G A C=>?_⟩
   ·cases G with
    |zero=>exact .refl _
    |succ G=>simp only[Ie]at A;exact ru G J
   ·cases q with
    |zero =>
     simp only[H6,Option.some.injEq]at K;subst K;dsimp only;rw[r1];exact gB
    |succ q=>exact r3 q c Cj
   ·rcases Hu.1 j with rfl|j
    ·rw[p]at g;cases g
    ·obtain⟨r,u0,u1,u2⟩:=r4 y j g;refine⟨r+1,Bm,gT y j (by rw[g];exact λe=>Ar) r u1,λG hr A C=>?_⟩;cases G with
     |zero=>omega
     |succ G =>
      simp only[Ie]at A;exact u2 G J J (λq c h5 h6 h7=>C (q+1) c J J (by simpa using h7))
   ·rcases Hu.1 j with rfl|j
    ·rw[p]at g;cases g
    ·exact r5 y j g H2
   ·rcases Hu.1 j with rfl|j
    ·rw[p]at g;cases g
    ·refine (ra y j g).imp id λ⟨a1,a2,a3,a4,a5⟩=>⟨by simp only[Ie];show R y.i+1≤_;omega,gT y j (by rw[g];exact λe=>Ar) _ a2,a3,a4,λG hr A C=>?_⟩
     dsimp only at hr C;cases G with
     |zero=>omega
     |succ G =>
      simp only[Ie]at A;exact a5 G J J (λq c h5 h6 h7=>C (q+1) c J J (by simpa using h7))
   ·rcases Hu.1 j with rfl|j
    ·rw[p]at g;cases g
    ·rcases Hu.1 X with rfl|X
     ·rw[p]at B;cases B
     ·exact ri y j jB X g B gE gF (Nat.succ.inj M) gG
   ·cases G with
    |zero=>exact (hp y j).2.2.2.2
    |succ G =>
     simp only[Ie]at A;have h0:=C 0 x J U;refine r6 y ?_ G J (λq c h6 h7=>C (q+1) c J (by simpa using h7));rw[jp];refine Wm.2 ⟨j,?_⟩;unfold Og at h0;simpa using h0
def chain_order:∀{l:List DOp} {seen A s:Nat},Of l seen A=some s→∀(q g:Nat) (c j:DOp),q<g→(Nd Mp l)[q]?=some c→(Nd Mp l)[g]?=some j→Og j.m c.i
 |[],_,_,_,_,q,g,c,j,_,h,_=>by simp[Nd]at h
 |x::l,seen,A,s,E,q,g,c,j,B,h,p=>by
  obtain⟨_,_,F⟩:=tu E;rcases F with ⟨z,t⟩|⟨z,_,t⟩|⟨z,_,t⟩
  ·have C:Nd Mp (x::l)=Nd Mp l:=by simp only[Nd];unfold Mp;rw[z]
   rw[C]at h p;exact chain_order t q g c j B h p
  ·have C:Nd Mp (x::l)=Nd Mp l:=by simp only[Nd];unfold Mp;rcases z with z|z<;>rw[z]
   rw[C]at h p;exact chain_order t q g c j B h p
  ·have C:Nd Mp (x::l)=x::Nd Mp l:=by simp only[Nd];unfold Mp;rw[z]
   rw[C]at h p;cases g with
   |zero=>omega
   |succ g =>
    simp only[H8]at p;cases q with
    |zero =>
     simp only[H6,Option.some.injEq]at h;subst h;obtain⟨hm,D⟩:=Wm.1 (Ic.2 ⟨_,p⟩);refine topo_chs t j hm (by rw[ze.1 D];exact λe=>Ar) _ ?_;rw[Wr,de];simp
    |succ q=>exact chain_order t q g c j J Ay p
end n6
end
section
section Zq
variable {P : Program} {n : Nat} {ops : Array Oper} {k : Pw} {L : List DOp} {E0 Ef : Tr AV}
def zic{S:Nat→Prop}:∀{l:List DOp} {seen z s:Nat},Of l seen z=some s→(∀p,Og seen p→S p)→(∀x∈l,S x.i)∨∃x∈l,¬S x.i∧∀p,Og x.m p→S p
 |[],_,_,_,_,_=>.inl λx A=>by cases A
 |x::l,seen,z,s,h,E=>by
  obtain⟨F,H,B⟩:=tu h;by_cases A:S x.i
  ·have D:∀g,Of l (Nat.lor (2^x.i) seen) g=some s→(∀y∈x::l,S y.i)∨∃y∈x::l,¬S y.i∧∀p,Og y.m p→S p:=λg G=>by
    rcases zic G (S:=S) (λp j=>by
     unfold Og at j;rw[Wr,de]at j;simp only[J3,Ht]at j;rcases j with rfl|j
     ·exact A
     ·exact E p j) with q|⟨y,C,q⟩
    ·exact .inl λy C=>by
      rcases Hu.1 C with rfl|C
      ·exact A
      ·exact q y C
    ·exact .inr ⟨y,Au,q⟩
   rcases B with ⟨_,B⟩|⟨_,_,B⟩|⟨_,_,B⟩<;>exact D _ B
  ·exact .inr ⟨x,U,A,λp j=>E p (F p j)⟩
def Ns(listed:Array Bool)(i:Nat):Prop:=listed.getD i false=true
def Zi{listed:Array Bool}{i:Nat}(j:i<listed.size)(g:Nat):Ns (listed.setIfInBounds i true) g↔(Ns listed g∨g=i):=by
 unfold Ns;rw[Ir,L3,Ir];by_cases e:i=g
 ·subst e;simp[j]
 ·have:¬g=i:=λq=>e q.symm
  simp[e,this]
def zmb{listed:Array Bool}{i:Nat}(C:listed.size=ops.size):i∈Region.ready .any ops listed↔i<ops.size∧¬Ns listed i∧∃o,ops[i]?=some o∧∀e∈o.after.toList,Region.binds .any e=true→Ns listed e.on:=by
 unfold Region.ready Ns;simp only[L0,I9,Hh,Ki];constructor
 ·rintro⟨g,j,p⟩;refine⟨g,?_,?_⟩
  ·rw[Ir,Iy J]at j ⊢;simpa using j
  ·rw[Iy g]at p;simp only[Jg,Jt]at p;refine⟨ops[i],Iy g,λe z A=>?_⟩;have:=Array.all_eq_true_iff_forall_mem.1 p e A4;rw[A]at this;simpa using this
 ·rintro⟨g,j,o,p,B⟩;refine⟨g,?_,?_⟩
  ·rw[Ir,Iy J]at j ⊢;simpa using j
  ·rw[p];simp only[Jg,Jt];refine Array.all_eq_true_iff_forall_mem.2 λe z=>?_
   cases A:Region.binds .any e with
   |false=>rfl
   |true=>simpa using B e A4 A
def ztm{g:CM}(h:E.le g){o:Nat}(p:∀v,E o v=none)(z:o<E.nx)(v:Nat):g o v=none:=by
 cases e:g o v with
 |none=>rfl
 |some L =>
  rcases h.new _ _ _ e with ⟨A,B,j⟩|j
  ·rw[p]at j;cases j
  ·omega
structure Pends (P:Program) (n:Nat) (ops:Array Oper) (k:Pw) (L:List DOp) (E0 Ef:Tr AV) (ord:List DOp) (ph:Nat→Nat) (C0 C:CM) (Hp:Heap) (D:Nat→Prop) (p:Nat):Prop where
 known:∀x∈ord,x.c=.al→¬Qb P n ops k L E0 Ef x→ph x.i≤p→C0.nx≤Pq Ef x∧Pq Ef x<Hp.next
 inj:∀x∈ord,∀y∈ord,x.c=.al→y.c=.al→¬Qb P n ops k L E0 Ef x→¬Qb P n ops k L E0 Ef y→ph x.i≤p→ph y.i≤p→Pq Ef x=Pq Ef y→x=y
 pend:∀x∈ord,x.c=.al→¬Qb P n ops k L E0 Ef x→ph x.i≤p→¬D x.i→∀v,C (Pq Ef x) v=none
def dw(gA:Fit P ops L){x:DOp}(hx:x∈L)(C:x.c=.al)(ho:ops[x.i]?=some x.o){j:CM}{H:Heap}{w:World}{E:Tr AV}{a:Act}(O:Rel B j H w)(Q:ER n j E a.tmps)
  (D:Ug ops L E0 Ef x E) (F:Zk P n ops L E0 Ef x H) (G:Pq Ef x<H.next) (R:∀v,j (Pq Ef x) v=none) (b:Frame) (g:List Nat) (S:List Item) (T:List Frame) :
  ∃(I:Loc) (V:World) (A:Value) (v:AV),Rel B (j.ext (Pq Ef x) 0 I) H V∧j.keep (j.ext (Pq Ef x) 0 I)∧VR (j.ext (Pq Ef x) 0 I) v A∧(∀d,x.o.dst=some d→Mm (Mx d) Ef=some v∧d<n) ∧
   Steps P (lone (b.atR a (.inRegion ops (x.i::g)::S)) T w) (lone (b.atR (a.put x.o.dst A) (.inRegion ops g::S)) T V):=by
 obtain⟨d,v0,g1,g2,g3,g4,g5⟩:=F;obtain⟨hg,X,H',Y,h2,oa,gg,h3,Z,h5⟩:=g5 E D;have p:=zpm (P:=P) (o:=x.o) (by rw[←gA.ok.cl x hx];exact C) E H;rw[Y]at p;obtain⟨ob,m1,rfl,m3,m4,m5⟩:=p;rw[Heap.get_push_same]at Z;cases Z;obtain⟨K,n',sz,A,q1,q2⟩:=m5 j w a.eval (ov Q);have hk:j.keep (j.ext (Pq Ef x) 0 ⟨w.heap.size,0,n',sz⟩):=λo' X L' M=>by
  by_cases e:o'=Pq Ef x∧X=0
  ·obtain⟨rfl,rfl⟩:=e;rw[R]at M;cases M
  ·rw[CM.ext_ne j _ e];exact M
 obtain⟨q3,q4⟩:=q2 _ (Pq Ef x) hk (CM.ext_same _ _ _ _);obtain⟨q5,_⟩:=O.bind G R h3 K ((q4 _ O.low.size).same h5);have hw:Region.wanted x.o (yielded ops a.tmps)=true:=by rw[←zfj Q ops x.o];exact hg
 have N:=zfq (P:=P) (o:=x.o) (E:=E) (H:=H) (by rw[Y];intro e;cases e);refine⟨_,_,A,v0,q5,hk,by rw[h2];exact q3,λd' z=>?_,.one (zpx ho hw N q1)⟩;rw[g1]at z;cases z;exact⟨g3,g2⟩
def Zq(hk:Xa P k)(gZ:Fit P ops L)(hn:n≤M1){g:List DOp}{s:Nat}(gP:Of g 0 0=some s)(N:∀x∈g,x∈L)(g8:∀i,i<ops.size→Og s i)(jO:Wv L E0 Ef (Og s) Ef)
  {Hb K:Nat→Heap} {ph:Nat→Nat} (hU:∀I,I≤(Nd Mp g).length→Ups (Hb I) (K I))
  (hA:∀q c,(Nd Mp g)[q]?=some c→Q8 P n ops k L E0 Ef c (K q) (Hb (q+1)))
  (hB:∀x∈g,x.c=.rd→∃r,r≤(Nd Mp g).length∧(∀q c,q<r→(Nd Mp g)[q]?=some c→Og x.m c.i)∧∀I,r≤I→I≤(Nd Mp g).length→(∀q c,r≤q→q<I→(Nd Mp g)[q]?=some c→¬Og c.m x.i)→Q8 P n ops k L E0 Ef x (K I) (K I))
  (jP:∀x∈g,x.c=.quiet→∀H2,Q8 P n ops k L E0 Ef x H2 H2)
  (hL:∀x∈g,x.c=.al→Qb P n ops k L E0 Ef x∨yb P n ops L E0 Ef (Nd Mp g) Hb K x (ph x.i))
  (hI:∀x∈g,∀y∈g,x.c=.al→y.c=.al→¬Qb P n ops k L E0 Ef x→¬Qb P n ops k L E0 Ef y→ph x.i=ph y.i→Pq Ef x=Pq Ef y→x=y)
  (b:Frame) (kk:List Item) (cs:List Frame) :
  ∀(j t:Nat) (listed:Array Bool) (jZ:List Nat) (I:Nat) (jB:CM) (w:World) (a:Act) (gV:Tr AV),listed.size=ops.size→jZ.length≤j→(∀i,i<ops.size→¬Ns listed i→i∈jZ) →
   Wv L E0 Ef (Ns listed) gV→DC L (Ns listed)→Rel B jB (K I) w→ER n jB gV a.tmps→(∀q c,(Nd Mp g)[q]?=some c→(Ns listed c.i↔q<I))→I≤(Nd Mp g).length →
   E.le jB→Pends P n ops k L E0 Ef g ph E jB (K I) (Ns listed) I →
   ∃C' w' a',E.le C'∧Rel B C' (K (Nd Mp g).length) w'∧ER n C' Ef a'.tmps∧a'.defers=a.defers ∧
    Steps P (lone (b.atR a (.inRegion ops (Region.linearise.go .any ops j t listed [])::kk)) cs w) (lone (b.atR a' (.inRegion ops []::kk)) cs w'):=by
 have jC:∀x∈L,x∈g:=λx R=>by
  rcases (topo_seen gP x.i).1 (g8 x.i (gZ.ok.op x R).2) with h|⟨y,C,e⟩
  ·simp at h
  ·rwa [←gZ.ok.inj y (N y C) x R e]
 have g9:∀(listed:Array Bool) (I:Nat) (jB:CM) (w:World) (a:Act) (gV:Tr AV),(∀i,i<ops.size→Ns listed i)→Wv L E0 Ef (Ns listed) gV→Rel B jB (K I) w→ER n jB gV a.tmps →
   (∀q c,(Nd Mp g)[q]?=some c→(Ns listed c.i↔q<I))→I≤(Nd Mp g).length→E.le jB →
   ∃C' w' a',E.le C'∧Rel B C' (K (Nd Mp g).length) w'∧ER n C' Ef a'.tmps∧a'.defers=a.defers ∧
    Steps P (lone (b.atR a (.inRegion ops []::kk)) cs w) (lone (b.atR a' (.inRegion ops []::kk)) cs w'):=by
  intro listed I jB w a gV hd hE hR D F hp G;have T:I=(Nd Mp g).length:=by
   rcases Kj I (Nd Mp g).length with h|h
   ·have hm:=Ky h;have:=(F I _ (Hj h)).1 (hd _ (gZ.ok.op _ (N _ (Wm.1 hm).1)).2);omega
   ·omega
  subst T;refine⟨jB,w,a,G,hR,⟨D.1,D.2.1,λt ht=>?_⟩,rfl,.refl _ _⟩;have e:Mm (Mx t) Ef=Mm (Mx t) gV:=by
   rw[hE t ht,jO t ht];unfold ba;have:Uo L (Og s) t↔Uo L (Ns listed) t:=by
    constructor
    ·rintro⟨y,C,_,h⟩;exact⟨y,C,hd _ (gZ.ok.op y C).2,h⟩
    ·rintro⟨y,C,_,h⟩;exact⟨y,C,g8 _ (gZ.ok.op y C).2,h⟩
   by_cases q:Uo L (Og s) t
   ·rw[Hs q,Hs (this.1 q)]
   ·rw[Hq q,Hq (λjQ=>q (this.2 jQ))]
  rw[e];exact D.2.2 t ht
 intro j
 induction j with
 |zero =>
  intro t listed jZ I jB w a gV hs hT gQ hE hD hR D F hp G A;have hd:∀i,i<ops.size→Ns listed i:=λi hi=>by
   by_cases h:Ns listed i
   ·exact h
   ·have:=gQ i hi h;have jR:jZ=[]:=Ig J;rw[jR]at this;cases this
  exact g9 listed I jB w a gV hd hE hR D F hp G
 |succ j ih =>
  intro t listed jZ I jB w a gV hs hT gQ hE hD hR D F hp G A;simp only[Region.linearise.go];change ∃C' w' a',E.le C'∧Rel B C' (K (Nd Mp g).length) w'∧ER n C' Ef a'.tmps∧a'.defers=a.defers ∧
   Steps P (lone (b.atR a (.inRegion ops (match (Region.ready .any ops listed)[t%(Region.ready .any ops listed).length]? with
    |some i=>Region.linearise.go .any ops j (t/(Region.ready .any ops listed).length) (listed.setIfInBounds i true) [i]
    |none=>[].reverse)::kk)) cs w) (lone (b.atR a' (.inRegion ops []::kk)) cs w')
  cases hi:(Region.ready .any ops listed)[t%(Region.ready .any ops listed).length]? with
  |none =>
   have jD:Region.ready .any ops listed=[]:=by
    cases hr:Region.ready .any ops listed with
    |nil=>rfl
    |cons x xs =>
     rw[hr]at hi;have gB:t%(x::xs).length<(x::xs).length:=Nat.mod_lt _ U;rw[Hj gB]at hi;cases hi
   have hd:∀i,i<ops.size→Ns listed i:=by
    rcases zic gP (S:=Ns listed) (λgE hj=>by simp[Og]at hj) with h|⟨x,R,h1,h2⟩
    ·intro i hi;obtain⟨x,R,rfl⟩:=gZ.ok.all i hi;exact h x (jC x R)
    ·have jE:=N x R;obtain⟨ho,gB⟩:=gZ.ok.op x jE;have:x.i∈Region.ready .any ops listed:=(zmb hs).2 ⟨gB,h1,x.o,ho,λe he hb=>h2 _ (gZ.ok.edge x jE e he hb)⟩;rw[jD]at this;cases this
   exact g9 listed I jB w a gV hd hE hR D F hp G
  |some i =>
   dsimp only;rw[linearise_go_acc,List.reverse_singleton,List.singleton_append];obtain⟨gB,gC,o,ho,gF⟩:=(zmb hs).1 (Im hi);obtain⟨x,R,rfl⟩:=gZ.ok.all i gB;have jF:=(gZ.ok.op x R).1;rw[ho]at jF;cases jF;have H:∀gE,Og x.m gE→Ns listed gE:=λgE hj=>by
    obtain⟨e,he,hb,rfl|⟨y,C,e1,e2⟩⟩:=gZ.ok.msk x R gE hj
    ·exact gF e he hb
    ·exact hD y C (by rw[e1];exact gF e he hb) gE e2
   have jp:Ug ops L E0 Ef x gV:=Y7 gZ hD R H (.inl gC) hE;have V:=jC x R;have jz:∃p' O w1 xv v,E.le O∧Rel B O (K p') w1∧ER n O (N9 x.o.dst v gV) (a.put x.o.dst xv).tmps∧(∀d,x.o.dst=some d→Mm (Mx d) Ef=some v∧d<n) ∧
     Steps P (lone (b.atR a (.inRegion ops (x.i::Region.linearise.go .any ops j (t/(Region.ready .any ops listed).length) (listed.setIfInBounds x.i true) [])::kk)) cs w)
      (lone (b.atR (a.put x.o.dst xv) (.inRegion ops (Region.linearise.go .any ops j (t/(Region.ready .any ops listed).length) (listed.setIfInBounds x.i true) [])::kk)) cs w1) ∧
     p'≤(Nd Mp g).length∧(∀q c,(Nd Mp g)[q]?=some c→((Ns listed c.i∨c.i=x.i)↔q<p')) ∧
     Pends P n ops k L E0 Ef g ph E O (K p') (λgE=>Ns listed gE∨gE=x.i) p':=by
    have gG:x.c≠.ch→∀q c,(Nd Mp g)[q]?=some c→((Ns listed c.i∨c.i=x.i)↔q<I):=λgH q c hq=>by
     rw[←F q c hq];constructor
     ·rintro (h|h)
      ·exact h
      ·obtain⟨hm,X⟩:=Wm.1 (Ic.2 ⟨_,hq⟩);rw[gZ.ok.inj c (N c hm) x R h]at X;exact absurd (ze.1 X) gH
     ·exact .inl
    have Z:∀r,r≤(Nd Mp g).length→(∀q c,q<r→(Nd Mp g)[q]?=some c→Og x.m c.i)→r≤I:=λr u0 u1=>by
     rcases Kj I r with h|h
     ·have T:I<(Nd Mp g).length:=J
      have:=(F I _ (Hj T)).1 (H _ (u1 I _ h (Hj T)));omega
     ·exact h
    have gI:∀r q c,r≤q→q<I→(Nd Mp g)[q]?=some c→¬Og c.m x.i:=λr q c _ hq jG hb=>by
     have hm:=(Wm.1 (Ic.2 ⟨_,jG⟩)).1;exact gC (hD c (N c hm) ((F q c jG).2 hq) _ hb)
    have Y:=λ(gH:x.c≠.ch) (jS:Q8 P n ops k L E0 Ef x (K I) (K I))=>show ∃p' O w1 xv v,E.le O∧Rel B O (K p') w1∧ER n O (N9 x.o.dst v gV) (a.put x.o.dst xv).tmps∧(∀d,x.o.dst=some d→Mm (Mx d) Ef=some v∧d<n) ∧
     Steps P (lone (b.atR a (.inRegion ops (x.i::Region.linearise.go .any ops j (t/(Region.ready .any ops listed).length) (listed.setIfInBounds x.i true) [])::kk)) cs w)
      (lone (b.atR (a.put x.o.dst xv) (.inRegion ops (Region.linearise.go .any ops j (t/(Region.ready .any ops listed).length) (listed.setIfInBounds x.i true) [])::kk)) cs w1) ∧
     p'≤(Nd Mp g).length∧(∀q c,(Nd Mp g)[q]?=some c→((Ns listed c.i∨c.i=x.i)↔q<p')) ∧
     Pends P n ops k L E0 Ef g ph E O (K p') (λgE=>Ns listed gE∨gE=x.i) p' from by
     obtain⟨v,gK,Q⟩:=jS gV jp;obtain⟨O,w1,xv,av,q1,q2,q3,q4,q5,q6⟩:=zgr hk ho hR D gK b (Region.linearise.go .any ops j (t/(Region.ready .any ops listed).length) (listed.setIfInBounds x.i true) []) kk cs;refine⟨I,O,w1,xv,v,CM.le_trans G q1,q2,by rw[q4];exact (D.mono q1).put q5 q3,Q,q6,hp,gG gH,⟨A.known,A.inj,λy C p z M gD v=>?_⟩⟩;exact ztm q1 (A.pend y C p z M (λh=>gD (.inl h))) (by rw[hR.nx];exact (A.known y C p z M).2) v
    cases X:x.c with
    |quiet=>exact Y (by rw[X];exact λe=>Ar) (jP x V X _)
    |rd =>
     obtain⟨r,u0,u1,u2⟩:=hB x V X;exact Y (by rw[X];exact λe=>Ar) (u2 I (Z r u0 u1) hp (gI r))
    |al =>
     by_cases gL:Qb P n ops k L E0 Ef x
     ·exact Y (by rw[X];exact λe=>Ar) (gL _)
     ·rcases hL x V X with h|⟨u0,u1,u2,u3,u4⟩
      ·exact absurd h gL
      ·have gR:=Z _ u0 u1;have jT:=u4 I gR hp (gI _);obtain⟨k1,k2⟩:=A.known x V X gL gR;have jH:=A.pend x V X gL gR gC;obtain⟨Lc,w1,xv,v,q1,q2,q3,q4,q5⟩:=dw gZ R X ho hR D jp jT k2 jH b (Region.linearise.go .any ops j (t/(Region.ready .any ops listed).length) (listed.setIfInBounds x.i true) []) kk cs;refine⟨I,_,w1,xv,v,⟨λo v L h=>q2 _ _ _ (G.keep _ _ _ h),Ix G.nx (J0 _ _),λo v L h=>?_⟩,q1,(D.mono' q2).put (λt ht=>(q4 t ht).2) q3,q4,q5,hp,gG (by rw[X];exact λe=>Ar),
        ⟨A.known,A.inj,λy C p z M gD v=>?_⟩⟩
       ·by_cases e:o=Pq Ef x∧v=0
        ·obtain⟨rfl,rfl⟩:=e;exact .inr k1
        ·rw[CM.ext_ne _ _ e]at h;exact G.new _ _ _ h
       ·have gH:Pq Ef y≠Pq Ef x:=λe=>gD (.inr (by rw[A.inj y C x V p X z gL M gR e]))
        rw[CM.ext_ne _ _ (λe=>gH e.1)];exact A.pend y C p z M (λh=>gD (.inl h)) v
    |ch =>
     obtain⟨q,hq⟩:=Ic.1 (Wm.2 ⟨V,ze.2 X⟩);have j3:¬q<I:=λh=>gC ((F q x hq).2 h)
     have j4:=(Hf.1 hq).1;have jV:q=I:=by
      rcases Kj I q with h|h
      ·have T:I<(Nd Mp g).length:=J
       have:=(F I _ (Hj T)).1 (H _ (chain_order gP I q _ x h (Hj T) hq));omega
      ·omega
     subst jV;obtain⟨v,gK,Q⟩:=hA q x hq gV jp;obtain⟨O,w1,xv,av,q1,q2,q3,q4,q5,q6⟩:=zgr hk ho hR D gK b (Region.linearise.go .any ops j (t/(Region.ready .any ops listed).length) (listed.setIfInBounds x.i true) []) kk cs;have gM:=hU (q+1) J;have jI:O.le (O.lift (K (q+1)).next):=CM.le_lift (by rw[q2.nx];exact gM.next);have j5:(K q).next≤(Hb (q+1)).next:=by rw[←hR.nx,←q2.nx];exact q1.nx
     have gg:∀y∈g,y.c=.al→¬Qb P n ops k L E0 Ef y→ph y.i=q+1→(Hb (q+1)).next≤Pq Ef y∧Pq Ef y<(K (q+1)).next:=λy C p z M=>by
      rcases hL y C p with h|⟨_,_,u2,u3,_⟩
      ·exact absurd h z
      ·rw[M]at u2 u3;exact⟨u2,u3⟩
     have j6:=gM.next;refine⟨q+1,O.lift (K (q+1)).next,w1,xv,v,CM.le_trans G (CM.le_trans q1 jI),q2.ups gM,by rw[q4];exact ((D.mono q1).put q5 q3).mono jI,Q,q6,J,λq' c gO=>?_,⟨λy C p z M=>?_,λy C jQ hz p gS z gT M j7 jK=>?_,λy C p z M gD v=>?_⟩⟩
     ·rw[F q' c gO];constructor
      ·rintro (h|h)
       ·omega
       ·have hm:=(Wm.1 (Ic.2 ⟨_,gO⟩)).1;have e:=gZ.ok.inj c (N c hm) x R h;subst e;rcases Nat.lt_trichotomy q' q with h'|h'|h'
        ·omega
        ·omega
        ·exact absurd (H _ (chain_order gP q q' c c h' hq gO)) gC
      ·intro h;rcases Kj q' q with h'|h'
       ·exact .inl h'
       ·have:q'=q:=J
        subst this;rw[hq]at gO;cases gO;exact .inr rfl
     ·rcases Kj (ph y.i) (q+1) with h|h
      ·obtain⟨k1,k2⟩:=A.known y C p z J;exact⟨k1,J⟩
      ·obtain⟨k1,k2⟩:=gg y C p z J;have:=(CM.le_trans G q1).nx;rw[q2.nx]at this;exact⟨Ix this k1,k2⟩
     ·rcases Kj (ph y.i) (q+1) with h|h<;>rcases Kj (ph jQ.i) (q+1) with h'|h'
      ·exact A.inj y C jQ hz p gS z gT J J jK
      ·have k1:=(A.known y C p z J).2;have k2:=(gg jQ hz gS gT J).1;omega
      ·have k1:=(A.known jQ hz gS gT J).2;have k2:=(gg y C p z J).1;omega
      ·exact hI y C jQ hz p gS z gT J jK
     ·show O.f (Pq Ef y) v=none;rcases Kj (ph y.i) (q+1) with h|h
      ·exact ztm q1 (A.pend y C p z J (λh=>gD (.inl h))) (by rw[hR.nx];exact (A.known y C p z J).2) v
      ·have k1:=(gg y C p z J).1;cases e:O.f (Pq Ef y) v with
       |none=>rfl
       |some L'=>have:=q2.fresh _ _ _ e;omega
   obtain⟨p',O,w1,xv,v,q1,q2,jL,Q,q6,jX,jM,jN⟩:=jz;have gA:=Zi (listed:=listed) (i:=x.i) J;have jg:Ns (listed.setIfInBounds x.i true)=λgE=>Ns listed gE∨gE=x.i:=funext λgE=>propext (gA gE)
   have jY:Wv L E0 Ef (Ns (listed.setIfInBounds x.i true)) (N9 x.o.dst v gV):=by
    have:=hE.put gZ hn R Q;rw[jg];exact this
   obtain⟨C2,w2,a2,r1,r2,r3,r4,r5⟩:=ih (t/(Region.ready .any ops listed).length) (listed.setIfInBounds x.i true) (jZ.erase x.i) p' O w1 (a.put x.o.dst xv) (N9 x.o.dst v gV) (by simpa using hs)
    (by
     have:=List.length_erase_of_mem (gQ x.i gB gC);omega)
    (λgE hj jA=>by
     rw[gA]at jA;have h1:¬Ns listed gE:=λh=>jA (.inl h)
     have h2:gE≠x.i:=λh=>jA (.inr h)
     exact (List.mem_erase_of_ne h2).2 (gQ gE hj h1))
    jY
    (λy C hd gE hj=>by
     rw[gA]at hd ⊢;rcases hd with hd|hd
     ·exact .inl (hD y C hd gE hj)
     ·rw[gZ.ok.inj y C x R hd]at hj;exact .inl (H gE hj))
    q2 jL (λq c hq=>by rw[gA];exact jM q c hq) jX q1 (by rw[jg];exact jN)
   refine⟨C2,w2,a2,r1,r2,r3,?_,Steps.trans q6 r5⟩;rw[r4];cases x.o.dst<;>rfl
def zru(hm:P.follows .mixedOrders=true)(hk:Xa P k){w:World}{a:Act}{id:Nat}(Z:Rel B E A w)(hE:ER n E F a.tmps)
  (h:(n9 P n ops).run k F A=.ok vY S) (b:Frame) (kk:List Item) (cs:List Frame) :
  ∃Q w' R,E.le Q∧Rel B Q S w'∧ER n Q vY R.tmps∧R.defers=a.defers ∧
   Steps P (lone (b.atR a (.code (.region id ops true)::kk)) cs w) (lone (b.atR R kk) cs w'):=by
 unfold n9 at h;dsimp only at h;generalize hL:Pl P ops ops.toList [] 0=L at h;have gg:LOk P ops L:=hL ▸ cw P ops;generalize hO:vm L (Nd Mp L)=D at h;have I:∀x∈D,x∈L:=λx T=>zsv x (by rw[hO];exact T)
 split at h
 ·rename_i hd;unfold zt4 at hd;split at hd
  ·cases hd
  ·rename_i s V;split at hd
   ·cases hd
   ·rename_i hs;split at hd
    ·cases hd
    ·rename_i gA;have gB:s=2^ops.size-1:=Hn (by simpa using hs);have gH:Fit P ops L:=⟨gg,(dstsOk_spec (by simpa using gA)).2,λx T y g=>zk6 (zk6 hd x T) y g⟩;have hn:=hE.2.1;have h0:Wv L F vY (Og 0) F:=λt ht=>by
      unfold ba;rw[Hq];rintro⟨y,_,g,_⟩;simp[Og]at g
     obtain⟨r0,_,Hb,N,ph,r1,r2,ru,r3,r4,r5,ra,ri,_⟩:=n6 (E0:=F) gH hn D [] 0 0 s F A S h V I (λx T=>by cases T) h0 (λy _ g=>by simp[Og]at g);have X:∀i,i<ops.size→Og s i:=λi K=>by
      unfold Og;rw[gB,Nat.testBit_two_pow_sub_one];simpa using K
     have z:∀i,¬Ns (Array.replicate ops.size false) i:=λi K=>by
      unfold Ns at K;rw[Ir,Array.getElem?_replicate]at K;split at K<;>cases K
     have O:=ru 0 (Kn _);rw[r1]at O;have gC:Rel B (E.lift (N 0).next) (N 0) w.drew:=Z.drew.ups O;have M:E.le (E.lift (N 0).next):=CM.le_lift (by rw[Z.nx];exact O.next);have C:∀y∈D,y.c=.al→¬Qb P n ops k L F vY y→ph y.i=0→A.next≤Pq vY y∧Pq vY y<(N 0).next:=λy g j p G=>by
      rcases ra y g j with h|⟨_,_,u2,u3,_⟩
      ·exact absurd h p
      ·rw[G]at u2 u3;rw[r1]at u2;exact⟨u2,u3⟩
     have Y:Pends P n ops k L F vY D ph E (E.lift (N 0).next) (N 0) (Ns (Array.replicate ops.size false)) 0:=by
      refine⟨λy g j p G=>?_,λy g gI hz j gD p gE G gG gF=>ri y g gI hz j gD p gE J gF,λy g j p G _ v=>?_⟩
      ·obtain⟨k1,k2⟩:=C y g j p J;rw[←Z.nx]at k1;exact⟨k1,k2⟩
      ·obtain⟨k1,k2⟩:=C y g j p J;show E.f (Pq vY y) v=none;cases e:E.f (Pq vY y) v with
       |none=>rfl
       |some L'=>have:=Z.fresh _ _ _ e;omega
     have H:Region.schedule (P.follows .mixedOrders) ops (w.tape w.drawn (.order b.fn id))=Region.linearise.go .any ops ops.size (w.tape w.drawn (.order b.fn id)) (Array.replicate ops.size false) []:=by
      simp only[Region.schedule,hm,Bool.true_or,Kh];rfl
     obtain⟨Q,w',R,q1,q2,q3,q4,q5⟩:=Zq hk gH hn V I X r0 ru r3 r4 r5 ra ri b kk cs ops.size (w.tape w.drawn (.order b.fn id)) (Array.replicate ops.size false) (List.range ops.size) 0 (E.lift (N 0).next) w.drew a F
      U U (λi K _=>Cj) (λt ht=>by
       unfold ba;rw[Hq];rintro⟨y,_,g,_⟩;exact z _ g) (λy _ g=>absurd g (z _)) gC (hE.mono M) (λq c _=>⟨λh=>absurd h (z _),λh=>absurd h (Lz q)⟩) (Kn _) M Y
     refine⟨Q,w',R,q1,by rw[←r2];exact q2,q3,q4,.head stepR_region_draw ?_⟩;rw[H];exact Steps.trans q5 (.one stepR_region_end)
 ·cases h
def zll(C:Xa P k){w:World}{a:Act}{id:Nat}(D:Rel B E A w)(G:ER n E F a.tmps)
  (h:(ac P n ops ops.toList).run k F A=.ok vY S) (b:Frame) (z:List Item) (cs:List Frame) :
  ∃g p j,E.le g∧Rel B g S p∧ER n g vY j.tmps∧j.defers=a.defers ∧
   Steps P (lone (b.atR a (.code (.region id ops false)::z)) cs w) (lone (b.atR j z) cs p):=by
 obtain⟨g,p,j,H,I,K,M,N⟩:=zng C b z cs ops.toList 0 rfl D G h;refine⟨g,p,j,H,I,K,M,.head stepR_region ?_⟩;rw[List.range_eq_range'];exact Steps.trans N (.one stepR_region_end)
end Zq
end
section
open Go.RowKit (Below)
inductive DR (C:CM):List Nat→List Deferred→Prop where
 |nil:DR C [] []
 |cons {d:Nat} {L:Loc} {l:List Nat} {r:List Deferred} (h:C d 0=some L) (hs:DR C l r):DR C (d::l) ({ target:=.collected L.b,args:=#[] }::r)
def DR.mono{C C':CM}(h:C.le C'):∀{l:List Nat} {r:List Deferred},DR C l r→DR C' l r
 |_,_,.nil=>.nil
 |_,_,.cons e es=>.cons (h.keep _ _ _ e) (DR.mono h es)
def RO(z:CM)(g r:Option Nat):Prop:=match g,r with
 |none,none=>True
 |some l,some j=>∃p,z l 0=some p∧p.b=j
 |_,_=>False
def RO.mono{C C':CM}(h:C.le C'){ro r:Option Nat}(k:RO C ro r):RO C' ro r:=by
 cases ro<;>cases r<;>simp only[RO]at k ⊢;obtain⟨L,h1,h2⟩:=k;exact⟨L,h.keep _ _ _ h1,h2⟩
def Rel.putBlock{w0:World}{gE:CM}{H:Heap}{w:World}(h:Rel w0 gE H w){o:Nat}{L:Loc}(hL:gE o 0=some L){ob:AObj}{x:Obj}(hB:w0.heap.size≤L.b)(gg:∀c len C ro,ob≠.cells c len C ro)
  (gA:(w.putObj L.b x).heap[L.b]?=some x→Oq w0.heap.size gE (w.putObj L.b x) o ob):Rel w0 gE (H.put o ob) (w.putObj L.b x):=by
 have gB:=h.lt _ _ _ hL;refine h.put (h.fresh _ _ _ hL) ob (h.low.trans ⟨rfl,rfl,rfl,U,λk hk=>World.putObj_heap_other J⟩) U (λo' v L' gC gD=>World.putObj_heap_other (λe=>gC ?_)) (gA (World.putObj_heap_same gB)) (λc len C ro e=>absurd e (gg c len C ro));exact (h.excl _ _ _ _ _ _ hL gD e.symm hB).symm
def zc2{P:Program}{w:World}{o:Nat}{r:Loop}(h:w.heap[o]?=some (.loop r))(fn:FuncId)(tmps:Array Value)(g:Array Tmp)(assign body:Code) :
  (Instr.enterLoop fn tmps g assign body (some o)).run P w =
   .ok (w.heap.size,[]) (w.alloc (.loop { state:=.ready,pending:=none,fn,tmps,params:=g,assign,body,defers:=r.defers })):=by
 unfold Instr.enterLoop;simp only[Sem.run_bind,run_getLoop h,run_newObj_alloc,Result.andThen,Sem.run_pure]
def zl0{P:Program}{f n:Nat}{j:Array Tmp}{as:Code}{l:Nat}{M:List Nat}(h:ze2 f n j as vM T F v7 A=some (l,M,S))
  {w:World} {N:List Deferred} {r:Option Nat} (g:Rel B E A w) (O:ER n E F X) (Q:DR E v7 N) (z:RO E T r) :
  ∃I R mark V,E.le I∧Rel B I S R∧(Instr.enterLoop f X j as vM r).run P w=.ok (V.b,mark) R∧I l 0=some V∧DR I M (mark++N):=by
 unfold ze2 at h
 ·split at h
  ·cases h;cases r with
   |some r=>exact z.elim
   |none =>
    obtain⟨C,K⟩:=g.push (.defd true) (.deferred (some [])) 0 0 (λV p=>by
     rw[CM.ext_same]at p;cases p;exact⟨g.low.size,Wi _ _⟩)
    have D:(E.ext A.next 0 ⟨w.heap.size,0,0,0⟩) A.next 0=some ⟨w.heap.size,0,0,0⟩:=CM.ext_same _ _ _ _;generalize E.ext A.next 0 ⟨w.heap.size,0,0,0⟩=Z at C K D;obtain⟨L,G⟩:=C.push (ob:=.loop .ready none f n F j as vM A.next) (x:=.loop { state:=.ready,pending:=none,fn:=f,tmps:=X,params:=j,assign:=as,body:=vM,defers:=w.heap.size }) 0 0 (λV p=>by
     rw[CM.ext_same]at p;cases p;refine⟨C.low.size,X,⟨w.heap.size,0,0,0⟩,(CM.le_ext _ (C.next_none 0) (.inr (K3 C.nx))).keep _ _ _ D,Wi _ _,(O.mono K).mono (CM.le_ext _ (C.next_none 0) (.inr (K3 C.nx)))⟩)
    refine⟨_,_,[{ target:=.collected w.heap.size,args:=#[] }],⟨w.heap.size+1,0,0,0⟩,CM.le_trans K G,L,?_,?_,?_⟩
    ·exact run_enterLoop_outer f X j as vM
    ·have:=CM.ext_same Z (A.push (.defd true)).next 0 ⟨(w.alloc (.deferred (some []))).heap.size,0,0,0⟩;rw[World.size_alloc]at this ⊢;exact this
    ·exact .cons (G.keep _ _ _ D) (Q.mono (CM.le_trans K G))
  ·rename_i lo;split at h
   ·rename_i d hg;cases h;cases r with
    |none=>exact z.elim
    |some r =>
     obtain⟨Lo,H,rfl⟩:=z;obtain⟨hB,gg,Y,hd,hw,_⟩:=g.obj _ _ (g.fresh _ _ _ H) hg Lo H;obtain⟨L,G⟩:=g.push (ob:=.loop .ready none f n F j as vM d) (x:=.loop { state:=.ready,pending:=none,fn:=f,tmps:=X,params:=j,assign:=as,body:=vM,defers:=Y.b }) 0 0 (λV p=>by
      rw[CM.ext_same]at p;cases p;exact⟨g.low.size,X,Y,(CM.le_ext _ (g.next_none 0) (.inr (K3 g.nx))).keep _ _ _ hd,Wi _ _,O.mono (CM.le_ext _ (g.next_none 0) (.inr (K3 g.nx)))⟩)
     refine⟨_,_,[],⟨w.heap.size,0,0,0⟩,G,L,?_,CM.ext_same _ _ _ _,Q.mono G⟩;exact zc2 hw f X j as vM
   ·cases h
def zj6{P:Program}{l:Nat}{K:Option Code}(h:zko l A=some (K,S)){w:World}(D:Rel B E A w){L:Loc}(C:E l 0=some L) :
  ∃j,(Instr.endLoop L.b).run P w=.ok K j∧Rel B E S j:=by
 unfold zko at h;split at h
 ·rename_i st g f n T M a b d N;have F:st≠.busy→(some (g,A.put l (.loop .exhausted g f n T M a b d))=some (K,S))→∃j,(Instr.endLoop L.b).run P w=.ok K j∧Rel B E S j:=λG e=>by
   cases e;obtain⟨I,O,Q,hd,hw,R⟩:=D.obj _ _ (D.fresh _ _ _ C) N L C;refine⟨_,run_endLoop hw G,D.putBlock C I (λ_ _ _ _ e=>Ar) (λp V z=>?_)⟩;rw[C]at z;cases z;exact⟨I,O,Q,hd,p,R⟩
  split at h
  ·cases h
  ·rename_i H;exact F (λe=>H e) h
 ·cases h
def zkx{P:Program}{w:World}{ρ:Operand→Value}{gop:Operand}(F:∀v,ρ (.const v)=v)(B:VR E D (ρ gop)){l:Nat}{j:Loc}(G:E l 0=some j){f:Nat}{args:List AV}
  (h:bk P D [.fn (.yield l) [] []]=.call (.fn f) args) :
  ∃d C,(resolve ρ (rangeCall gop j.b) 0).run P w=.ok d w∧(invoke d.target d.args).run P w=.ok (.enter f (List.toArray C)) w∧VRs E args C:=by
 have H:VRs E [AV.fn (.yield l) [] []] [Value.func (.yield j.b) #[] #[]]:=.cons (.fn (.yield G) .nil .nil) .nil;generalize p:ρ gop=gv at B;have g:∀fn first cap,gv=.func fn first cap→(resolve ρ (rangeCall gop j.b) 0).run P w=.ok { target:=.fn fn cap,args:=first++#[Value.func (.yield j.b) #[] #[]] } w:=by
  intro fn first cap e
  subst e;simp only[resolve,p,Deferred.ofValue,Sem.run_pure];simp[F]
 unfold bk at h;split at h
 ·rename_i N first cap
  split at h
  ·rename_i I;cases h;cases B with
   | @fn _ O _ _ z A K L M =>
    cases K with
    |same =>
     refine⟨_,z.toList++[Value.func (.yield j.b) #[] #[]]++A.toList,g _ _ _ rfl,?_,(L.append H).append M⟩;have:(z++#[Value.func (.yield j.b) #[] #[]]++A)=(z.toList++[Value.func (.yield j.b) #[] #[]]++A.toList).toArray:=U
     rw[←this];exact z9p I _
  ·cases h
 ·cases h
 ·cases h
def Zu(P:Program)(b:Frame)(m:Machine)(cs:List Frame)(z:List Item)(j:Act)(p:World):Ex→Prop
 |.normal=>Steps P m (lone (b.atR j z) cs p)
 |.exit id=>∃g,exitTo id g=exitTo id z∧Steps P m (lone (b.atR j (.code (.exit id)::g)) cs p)
 |.ret=>∃g,Steps P m (lone (b.atR j (.code .ret::g)) cs p)
def Zu.head{P:Program}{b:Frame}{m m1:Machine}{cs:List Frame}{kk:List Item}{a':Act}{w':World}{x:Ex}(h:Steps P m m1)(k:Zu P b m1 cs kk a' w' x):Zu P b m cs kk a' w' x:=by
 cases x with
 |normal=>exact Steps.trans h k
 |exit id=>obtain⟨k1,e,s⟩:=k;exact⟨k1,e,Steps.trans h s⟩
 |ret=>obtain⟨k1,s⟩:=k;exact⟨k1,Steps.trans h s⟩
section scope
variable {P : Program} {b : Frame} {a : Act} {k : List Item} {cs : List Frame} {w : World} {c : Code}
def stepR_scope:step P (lone (b.atR a (.code (.scope c)::k)) cs w)=.next (lone (b.atR a (.code c::.inScope c::k)) cs w):=step_lone_go E8
def stepR_inScope:step P (lone (b.atR a (.inScope c::k)) cs w)=.next (lone (b.atR a k) cs w):=step_lone_go E8
end scope
structure Both (w0:World) (n:Nat) (C:CM) (E:Tr AV) (D:List Nat) (H:Heap) (a:Act) (w:World):Prop where
 rel:Rel w0 C H w
 env:ER n C E a.tmps
 defs:DR C D a.defers
def oq(P:Program)(f n:Nat)(F:CodeF)(c:Code):Prop :=
 ∀(k:Pw),Xa P k→∀(m:Nat) (g:Option Nat) (j:World) (G:CM) (H:Tr AV) (I:List Nat) (K:Heap) (a:Act) (w:World) (b:Frame) (x:Ex) (p:Tr AV) (z:List Nat) (A:Heap),
  Both j n G H I K a w→b.fn=f→RO G g b.roundOf→F.run k m g H I K=.ok x p z A→∀(B:List Item) (cs:List Frame),
  ∃C D E,G.le C∧Both j n C p z A E D∧Zu P b (lone (b.atR a (.code c::B)) cs w) cs B E D x
def bi{P:Program}(hm:P.follows .mixedOrders=true)(f n:Nat):∀(c:Code),oq P f n (Ot P f n c) c
 |.skip=>by
  intro k C m D F N Q R S a w b x K L M j H g h z cs;cases h;exact⟨N,w,a,CM.le_refl N,j,.one stepR_skip⟩
 |.label l=>by
  intro k C m D F N Q R S a w b x K L M j H g h z cs;cases h;exact⟨N,w,a,CM.le_refl N,j,.one stepR_label⟩
 |.exit id=>by
  intro k C m D F N Q R S a w b x K L M j H g h z cs;cases h;exact⟨N,w,a,CM.le_refl N,j,z,rfl,.refl _ _⟩
 |.ret=>by
  intro k C m D F N Q R S a w b x K L M j H g h z cs;cases h;exact⟨N,w,a,CM.le_refl N,j,z,.refl _ _⟩
 |.region id ops draw=>by
  intro k C m D F N Q R S a w b x K L M j H g h z cs;simp only[Ot]at h;cases draw with
  |true =>
   dsimp only at h;split at h
   ·cases h
   ·rename_i Y X hr;cases h;obtain⟨C',w',a',p,B,A,q4,q5⟩:=zru hm C (id:=id) j.rel j.env hr b z cs;exact⟨C',w',a',p,⟨B,A,by rw[q4];exact j.defs.mono p⟩,q5⟩
  |false =>
   dsimp only at h;split at h
   ·cases h
   ·rename_i Y X hr;cases h;obtain⟨C',w',a',p,B,A,q4,q5⟩:=zll C (id:=id) j.rel j.env hr b z cs;exact⟨C',w',a',p,⟨B,A,by rw[q4];exact j.defs.mono p⟩,q5⟩
 |.seq c1 c2=>by
  intro k C m D F N Q R S a w b x K L M j H g h z cs;simp only[Ot]at h;cases h1:(Ot P f n c1).run k m D Q R S with
  |no=>rw[h1]at h;cases h
  |ok Z Y D1 X =>
   rw[h1]at h;obtain⟨G,E,I,p,B,A⟩:=bi hm f n c1 k C m D F N Q R S a w b Z Y D1 X j H g h1 (.code c2::z) cs;cases Z with
   |normal =>
    dsimp only at h;obtain⟨C2,w2,a2,r1,r2,r3⟩:=bi hm f n c2 k C m D F G Y D1 X I E b x K L M B H (g.mono p) h z cs;exact⟨C2,w2,a2,CM.le_trans p r1,r2,r3.head (.head stepR_seq A)⟩
   |exit id =>
    cases h;obtain⟨O,e,s⟩:=A;exact⟨G,E,I,p,B,O,e,.head stepR_seq s⟩
   |ret =>
    cases h;obtain⟨O,s⟩:=A;exact⟨G,E,I,p,B,O,.head stepR_seq s⟩
 |.cond c c1 c2=>by
  intro k C m D F N Q R S a w b x K L M j H g h z cs;simp only[Ot]at h;split at h
  ·rename_i t ht;have hv:=ov j.env c _ ht;have gE:a.eval c=.bool t:=by
    generalize a.eval c=v at hv;cases hv;rfl
   split at h
   ·obtain⟨G,E,I,p,B,A⟩:=bi hm f n c1 k C m D F N Q R S a w b x K L M j H g h z cs;exact⟨G,E,I,p,B,A.head (.one (by rw[stepR_cond gE];rfl))⟩
   ·obtain⟨G,E,I,p,B,A⟩:=bi hm f n c2 k C m D F N Q R S a w b x K L M j H g h z cs;exact⟨G,E,I,p,B,A.head (.one (by rw[stepR_cond gE];rfl))⟩
  ·cases h
 |.block id c=>by
  intro k C m D F N Q R S a w b x K L M j H g h z cs;simp only[Ot]at h;split at h
  ·cases h
  ·rename_i Z Y D1 X h1;obtain⟨G,E,I,p,B,A⟩:=bi hm f n c k C m D F N Q R S a w b Z Y D1 X j H g h1 (.inBlock id::z) cs;cases Z with
   |normal =>
    cases h;exact⟨G,E,I,p,B,Steps.head stepR_block (Steps.trans A (.one stepR_inBlock))⟩
   |exit gF =>
    dsimp only at h;obtain⟨O,e,s⟩:=A;split at h
    ·rename_i gg;cases h;have gG:gF=id:=Hn gg;subst gG;refine⟨G,E,I,p,B,Steps.head stepR_block (Steps.trans s (.one (stepR_exit ?_)))⟩;rw[e];simp[exitTo]
    ·rename_i gg;cases h;refine⟨G,E,I,p,B,O,?_,.head stepR_block s⟩;rw[e];have gI:¬id=gF:=λq=>by subst q;rw[Ii]at gg;cases gg
     simp[exitTo,gI]
   |ret =>
    cases h;obtain⟨O,s⟩:=A;exact⟨G,E,I,p,B,O,.head stepR_block s⟩
 |.scope c=>by
  intro k C m D F N Q R S a w b x K L M j H g h z cs;simp only[Ot]at h;obtain⟨G,E,I,p,B,A⟩:=bi hm f n c k C m D F N Q R S a w b x K L M j H g h (.inScope c::z) cs;refine⟨G,E,I,p,B,?_⟩;cases x with
  |normal=>exact Steps.head stepR_scope (Steps.trans A (.one stepR_inScope))
  |exit id =>
   obtain⟨O,e,s⟩:=A;exact⟨O,e,.head stepR_scope s⟩
  |ret =>
   obtain⟨O,s⟩:=A;exact⟨O,.head stepR_scope s⟩
 |.loop c=>by
  intro k C m D F N Q R S a w b x K L M j H g h z cs;simp only[Ot]at h;have ih:=bi hm f n c;have gK:∀(gP:Nat) (N:CM) (Q:Tr AV) (R:List Nat) (S:Heap) (a:Act) (w:World),Both F n N Q R S a w→RO N D b.roundOf→Xx ((Ot P f n c).run k m D) gP Q R S=.ok x K L M →
    ∃C' w' a',N.le C'∧Both F n C' K L M a' w'∧Zu P b (lone (b.atR a (.code c::.inLoop c::z)) cs w) cs z a' w' x:=by
   intro gP
   induction gP with
   |zero=>intro N Q R S a w _ _ h;cases h
   |succ gP gL =>
    intro N Q R S a w j g h;simp only[Xx]at h;split at h
    ·cases h
    ·rename_i Z Y D1 X h1;obtain⟨G,E,I,p,B,A⟩:=ih k C m D F N Q R S a w b Z Y D1 X j H g h1 (.inLoop c::z) cs;cases Z with
     |normal =>
      dsimp only at h;obtain⟨C2,w2,a2,r1,r2,r3⟩:=gL G Y D1 X I E B (g.mono p) h;exact⟨C2,w2,a2,CM.le_trans p r1,r2,r3.head (Steps.trans A (.one stepR_inLoop))⟩
     |exit id =>
      cases h;obtain⟨O,e,s⟩:=A;exact⟨G,E,I,p,B,O,e,s⟩
     |ret =>
      cases h;obtain⟨O,s⟩:=A;exact⟨G,E,I,p,B,O,s⟩
  obtain⟨G,E,I,p,B,A⟩:=gK m N Q R S a w j g h;exact⟨G,E,I,p,B,A.head (.one stepR_loop)⟩
 |.rangeFunc gQ ps as bd=>by
  intro k C m D F N Q R S a w b x K L M j H g h z cs;simp only[Ot]at h;split at h
  ·cases h
  ·rename_i gv hg;split at h
   ·cases h
   ·rename_i l D1 X he;obtain⟨G,E,mark,gR,p,B,A,q4,q5⟩:=zl0 (P:=P) he j.rel j.env j.defs g;split at h
    ·rename_i t gO gD;split at h
     ·cases h
     ·rename_i v H2 gM;obtain⟨d,vs,s1,s2,s3⟩:=zkx (P:=P) (w:=E) (ρ:=a.eval) (gop:=gQ) (λ_=>rfl) ((ov j.env gQ _ hg).mono p) q4 gD;have gA:=C _ _ _ _ _ _ _ _ _ B s3 gM (b.atR { a with defers:=mark++a.defers } (.inRangeFunc gR.b::z)::cs);obtain⟨C2,w2,v',fr,t1,t2,t3,t4,t5,t6⟩:=gA;rw[←H]at A;have gH:=stepR_rangeFunc (P:=P) (b:=b) (a:=a) (k:=z) (cs:=cs) (w:=w) A s1 s2;have T:=step_leave_returned (c:=b.atR { a with defers:=mark++a.defers } (.inRangeFunc gR.b::z)) (cs:=cs) t6;rw[finish_atR_inRangeFunc]at T;have gB:DR C2 D1 ({ a with defers:=mark++a.defers }:Act).defers:=q5.mono t1;have gC:ER n C2 Q ({ a with defers:=mark++a.defers }:Act).tmps:=(j.env.mono p).mono t1;split at h
      ·cases h
      ·rename_i H3 V;cases h;obtain⟨w3,u1,u2⟩:=zj6 (P:=P) V t2 (t1.keep _ _ _ q4);refine⟨C2,w3,{ a with defers:=mark++a.defers },CM.le_trans p t1,⟨u2,gC,gB⟩,?_⟩;refine Steps.head gH (Steps.trans t4 (.head T (.one ?_)));rw[stepR_endRangeFunc u1];rfl
      ·rename_i c H3 V;obtain⟨w3,u1,u2⟩:=zj6 (P:=P) V t2 (t1.keep _ _ _ q4);split at h
       ·cases h
       ·rename_i Z hx;cases h;have go:Steps P (lone (b.atR a (.code (.rangeFunc gQ ps as bd)::z)) cs w) (lone (b.atR { a with defers:=mark++a.defers } (.code c::z)) cs w3) :=
         .head gH (Steps.trans t4 (.head T (.one (by rw[stepR_endRangeFunc u1];rfl))))
        refine⟨C2,w3,{ a with defers:=mark++a.defers },CM.le_trans p t1,⟨u2,gC,gB⟩,?_⟩;unfold zf at hx;split at hx
        ·cases hx;exact⟨z,go⟩
        ·cases hx;exact⟨z,rfl,go⟩
        ·cases hx
    ·cases h
 |.goto _=>by
  intro k C m D F N Q R S a w b x K L M j H g h z cs;cases h
 |.refuse _=>by
  intro k C m D F N Q R S a w b x K L M j H g h z cs;cases h
end
section
open Go.RowKit (Below)
def ep{r:ResultVar}{n:Nat}{w:World}{a:Act}(N:Rel B E A w)(C:ER n E F a.tmps){v:AV}(h:(resF p r).run F A=some v) :
  ∃x,(match r with
   |.tmp t=>pure (a.tmps.getD t undef)
   |.cell c t=>do loadVar t (←asAddr (a.tmps.getD c undef)):Sem Value).run p w=.ok x w∧VR E v x:=by
 have g:∀t,a.eval (.tmp t)=a.tmps.getD t undef:=λt=>by
  show a.tmps.getD t undef=_;rfl
 cases r with
 |tmp t =>
  simp only[resF]at h;have:=ov C _ _ h;rw[g]at this;exact⟨_,by simp[Sem.run_pure],this⟩
 |cell c t =>
  unfold resF at h;dsimp only at h ⊢;split at h
  ·rename_i n D O;dsimp only at h;split at h
   ·rename_i o G i H;split at h
    ·rename_i l I;cases h;have j:=ov C _ _ H;rw[g]at j;generalize a.tmps.getD c undef=R at j;cases j with
     |ptr K =>
      obtain⟨L,P,M,Q,S,_⟩:=N.read p I K;exact⟨.agg L.toArray,by simp[asAddr,loadVar,t8 D,Ri O,P],.agg (by simpa using M) Q⟩
    ·cases h
   ·cases h
  ·rename_i n D O;dsimp only at h;split at h
   ·rename_i o G i H;split at h
    ·rename_i V I;cases h;have j:=ov C _ _ H;rw[g]at j;generalize a.tmps.getD c undef=R at j;cases j with
     |ptr K =>
      obtain⟨L,P,M,Q,S,X,T⟩:=N.read p I K;have z:=T 0 J
      match L,M with
      |[u],.cons hu .nil =>
       simp only[Kq,H6]at z;exact⟨u,by simp[asAddr,loadVar,t8 D,z],hu⟩
    ·cases h
   ·cases h
  ·cases h
def zqh{L:Program}{n:Nat}{C:World}{D:CM}{M:Tr AV}{N:Heap}{w:World}{a:Act}(A:Rel C D N w)(B:ER n D M a.tmps):∀{l:List ResultVar} {j:List AV},(kg L l).run M N=some j →
  ∃p,(l.mapM fun
   |.tmp t=>pure (a.tmps.getD t undef)
   |.cell c t=>do loadVar t (←asAddr (a.tmps.getD c undef)):Sem (List Value)).run L w=.ok p w∧VRs D j p
 |[],j,h=>by
  cases h;exact⟨[],by simp[Sem.run_pure],.nil⟩
 |r::l,j,h=>by
  simp only[kg]at h;split at h
  ·cases h
  ·rename_i v E;split at h
   ·cases h
   ·rename_i F z;cases h;obtain⟨x,G,H⟩:=ep A B E;obtain⟨p,I,K⟩:=zqh A B z;refine⟨x::p,?_,.cons H K⟩;rw[List.mapM_cons,Sem.run_bind];have g:=G;cases r<;>(dsimp only at g ⊢;rw[g];simp only[Result.andThen_ok,Sem.run_bind,I,Sem.run_pure])
def zir{fn:Func}{n:Nat}{w:World}{a:Act}(z:Rel B E A w)(C:ER n E F a.tmps)(h:(kg p fn.results.toList).run F A=some H) :
  ∃x,(results fn a.tmps).run p w=.ok x w∧VR E (match H with
   |[v]=>v
   |l=>.tup l) x:=by
 obtain⟨g,D,G⟩:=zqh z C h;have hm:(fn.results.mapM fun
   |.tmp t=>pure (a.tmps.getD t undef)
   |.cell c t=>do loadVar t (←asAddr (a.tmps.getD c undef)):Sem (Array Value)).run p w=.ok g.toArray w:=by
  rw[Array.mapM_eq_mapM_toList];rw[map_eq_pure_bind,Sem.run_bind,D];rfl
 refine⟨if h:g.toArray.size=1 then g.toArray[0] else .tuple g.toArray,?_,?_⟩
 ·unfold results;rw[Sem.run_bind];exact (congrArg (λr=>Result.andThen r _) hm).trans rfl
 ·cases G with
  |nil=>exact .tup .nil
  |cons e I =>
   cases I with
   |nil=>exact e
   |cons K j =>
    simp only[List.size_toArray,Ie];rw[dif_neg J];exact .tup (.cons e (.cons K j))
def ztt{fr:Frame}{j:List Frame}{w:World}{z:List Deferred}(hm:fr.mode=.returning)(hd:fr.defers={ target:=.collected g,args:=#[] }::z)(hw:w.heap[g]?=some (.deferred (some []))) :
  step p (lone fr j w)=.next (lone { fr with defers:=z } j (w.putObj g (.deferred none))) :=
 step_lone_go (by simp[stepG,unwind,hm,hd,Sem.runT_eq,run_takeDeferred hw,GStep.bare_after])
def zph{R:Program}{D:World}{I:CM}:∀{P:List Nat} {F:List Deferred} {G A:Heap} {w:World} {fr:Frame} (g:List Frame),DR I P F→sa P G=some A→Rel D I G w→fr.mode=.returning→fr.defers=F →
  ∃B,Rel D I A B∧Steps R (lone fr g w) (lone { fr with defers:=[] } g B)
 |_,_,G,A,w,fr,g,.nil,h,j,hm,hd=>by
  cases h;refine⟨w,j,?_⟩;have:fr={ fr with defers:=[] }:=by cases fr;cases hd;rfl
  rw[←this];exact .refl _ _
 |_,_,G,A,w,fr,g,.cons (d:=d) (L:=Q) (r:=r) C K,h,j,hm,hd=>by
  simp only[sa]at h;split at h
  ·rename_i M;obtain⟨H,hw⟩:=j.obj _ _ (j.fresh _ _ _ C) M Q C;have E:Rel D I (G.put d (.defd false)) (w.putObj Q.b (.deferred none)):=j.putBlock C H (λ_ _ _ _ e=>Ar) (λp S z=>by
    rw[C]at z;cases z;exact⟨H,p⟩)
   obtain⟨B,N,O⟩:=zph (fr:={ fr with defers:=r }) g K h E hm rfl;exact⟨B,N,.head (ztt hm hd hw) O⟩
  ·cases h
def ER.start{gg:CM}{args:List AV}(C:VRs gg args vO){n:Nat}(hn:n≤M1)(hl:args.length≤n):ER n gg (Ou args 0 .e) (vO.toArray++Array.replicate (n-vO.toArray.size) undef):=by
 have hlen:=C.length;refine⟨Ab,hn,λt ht=>?_⟩;rw[get_ofList args 0 .e t,Vf];rw[Ir];by_cases h:t<args.length
 ·rw[Hs ⟨Kn _,J⟩];obtain⟨a,v,q1,q2,q3⟩:=C.get' h;rw[Nat.sub_zero,q1];rw[Je Ab];simp only[I0,q2,Jt];exact q3
 ·rw[Hq J];show _=undef;rw[L8 Ab,Array.getElem?_replicate];split<;>rfl
def setPs_ok:∀(g:List Tmp) (args:List AV) (j:List Value) {n:Nat} {G z:Tr AV} {p:Array Value},wh g args n G=some z→VRs E args j→ER n E G p →
  g.length=j.length∧ER n E z ((g.zip j).foldl (λtmps (t,a)=>tmps.setIfInBounds t a) p):=by
 intro g
 induction g with
 |nil =>
  intro args j n G z p h A B;cases A with
  |nil=>cases h;exact⟨rfl,B⟩
  |cons e F=>cases h
 |cons N g H =>
  intro args j n G z p h A B;cases A with
  |nil=>cases h
  |cons e F =>
   simp only[wh]at h;split at h
   ·rename_i I;have C:N<n:=Hw I;have D:=ER.put (a:={ tmps:=p,defers:=[] }) B (d:=some N) (λt K=>by cases K;exact C) e;obtain⟨L,M⟩:=H _ _ h F D;exact⟨A1,M⟩
   ·cases h
def zuu{P:Program}(hm:P.follows .mixedOrders=true){k:Pw}(hk:Xa P k){f m:Nat}{w:World}{args:List AV}{v:AV}(hR:Rel B E A w)(hv:VRs E args vO)
  (h:(o9 P f).run k m args A=.ok v S):jy P B E w (.fn f) vO v S:=by
 unfold o9 at h;split at h
 ·cases h
 ·rename_i fn Q;split at h
  ·cases h
  ·rename_i z R;split at h
   ·rename_i G;dsimp only at h;split at h
    ·cases h
    ·rename_i H;have C:args.length≤fn.ntmps:=Hw H;split at h
     ·cases h
     ·rename_i x gA gB H1 I;intro D;let b:Frame:={ (default:Frame) with fn:=f,kind:=.normal,roundOf:=none };have p:Frame.enter P f vO.toArray .normal=b.atR { tmps:=vO.toArray++Array.replicate (fn.ntmps-vO.toArray.size) undef,defers:=[] } [.code z]:=by
       simp[Frame.enter,Frame.atR,Q,R,b]
      obtain⟨C1,w1,a1,q1,L,T⟩:=bi hm f fn.ntmps z k hk m none B E (Ou args 0 .e) [] A { tmps:=vO.toArray++Array.replicate (fn.ntmps-vO.toArray.size) undef,defers:=[] } w b x gA gB H1
       ⟨hR,ER.start hv G C,.nil⟩ rfl trivial I [] D
      rw[←p]at T;have K:∀g,Steps P (lone (Frame.enter P f vO.toArray .normal) D w) (lone { b.atR a1 g with mode:=.returning } D w1) →
        (match sa gB H1 with
         |none=>RV.no
         |some M=>match (kg P fn.results.toList).run gA M with
          |some [v]=>.ok v M
          |some l=>.ok (.tup l) M
          |none=>.no)=.ok v S →
        ∃V X v' Y,E.le V∧Rel B V S X∧VR V v v'∧Steps P (lone (Frame.enter P f vO.toArray .normal) D w) (lone Y D X)∧Y.fn=f∧Y.leaving P X (.returned v'):=by
       intro g hs F;split at F
       ·cases F
       ·rename_i M Z;obtain⟨w2,N,r2⟩:=zph (fr:={ b.atR a1 g with mode:=.returning }) D L.defs Z L.rel rfl rfl;split at F
        ·rename_i v1 j;cases F;obtain⟨xv,s1,O⟩:=zir (fn:=fn) N L.env j;exact⟨C1,w2,xv,_,q1,N,O,Steps.trans hs r2,rfl,rfl,rfl,rfl,fn,Q,s1⟩
        ·rename_i l gg j;cases F;obtain⟨xv,s1,O⟩:=zir (fn:=fn) N L.env j;refine⟨C1,w2,xv,_,q1,N,?_,Steps.trans hs r2,rfl,rfl,rfl,rfl,fn,Q,s1⟩;rcases l with _|⟨u,_|⟨u2,l⟩⟩
         ·exact O
         ·exact absurd rfl (gg u)
         ·exact O
        ·cases F
      cases x with
      |exit id=>cases h
      |normal=>exact K [] (Steps.trans T (.one (stepR_end rfl))) h
      |ret =>
       obtain⟨k1,s⟩:=T;exact K (.code .ret::k1) (Steps.trans s (.one (stepR_ret rfl))) h
   ·cases h
def znv{P:Program}{l:Nat}{x:Ex}{v:AV}(h:zgj l x A=.ok v S){w:World}(C:Rel B E A w){M:Loc}(p:E l 0=some M) :
  ∃H I,(Instr.endRound M.b (match x with
   |.normal=>none
   |.ret=>some .ret
   |.exit id=>some (.exit id))).run P w=.ok I H∧Rel B E S H∧VR E v I:=by
 unfold zgj at h;split at h
 ·rename_i st K f n Q O a b d N;obtain⟨z,D,F,hd,hw,G⟩:=C.obj _ _ (C.fresh _ _ _ p) N M p;split at h
  ·cases h;refine⟨_,_,run_endRound none hw,C.putBlock p z (λ_ _ _ _ e=>Ar) (λg L j=>?_),.bool true⟩;rw[p]at j;cases j;exact⟨z,D,F,hd,g,G⟩
  ·cases h;refine⟨_,_,run_endRound (some .ret) hw,C.putBlock p z (λ_ _ _ _ e=>Ar) (λg L j=>?_),.bool false⟩;rw[p]at j;cases j;exact⟨z,D,F,hd,g,G⟩
  ·rename_i id;cases h;refine⟨_,_,run_endRound (some (.exit id)) hw,C.putBlock p z (λ_ _ _ _ e=>Ar) (λg L j=>?_),.bool false⟩;rw[p]at j;cases j;exact⟨z,D,F,hd,g,G⟩
 ·cases h
def Z9{P:Program}{l:Nat}(h:zq0 l A=some S){w:World}(z:Rel B E A w){G:Loc}(p:E l 0=some G) :
  ∃C,(Instr.beginRound G.b).run P w=.ok () C∧Rel B E S C:=by
 unfold zq0 at h;split at h
 ·rename_i D f n O M a b d H;cases h;obtain⟨F,I,K,hd,hw,L⟩:=z.obj _ _ (z.fresh _ _ _ p) H G p;refine⟨_,run_beginRound hw rfl,z.putBlock p F (λ_ _ _ _ e=>Ar) (λg N j=>?_)⟩;rw[p]at j;cases j;exact⟨F,I,K,hd,g,L⟩
 ·cases h
def zce{P:Program}(hm:P.follows .mixedOrders=true){gA:Pw}(Y:Xa P gA):∀m,Xa P (Qt P gA m)
 |0=>λ_ _ _ _ _ _ _ _ _ _ _ h=>Al
 |m+1=>by
  have I:=zce hm Y m;intro Z gC gD w t gg z v H' A K h;unfold Qt at h;cases t with
  |fn f =>
   dsimp only at h;split at h
   ·rename_i v1 H1 ho;cases h;exact Y _ _ _ _ _ _ _ _ _ A K ho
   ·exact zuu hm I A K h
  |yield l =>
   dsimp only at h;split at h
   ·rename_i f n gE B a b d hg;split at h
    ·cases h
    ·rename_i E1 L;split at h
     ·rename_i E2 H2 M;split at h
      ·cases h
      ·rename_i N O;split at h
       ·cases h
       ·rename_i x E3 gF H3 Q;split at h
        ·intro gB C c cs;obtain⟨hB,D,Ld,hd,hw,hE⟩:=A.obj _ _ (A.fresh _ _ _ C) hg gB C;obtain⟨E,R⟩:=setPs_ok _ _ _ L K hE;have S:=run_yield (P:=P) (args:=z.toArray) hw (by simpa using E.symm);dsimp only at S;have p:((B.zip z.toArray).foldl (λg (t,a)=>g.setIfInBounds t a) D)=((B.toList.zip z).foldl (λg (t,a)=>g.setIfInBounds t a) D):=by
          rw[←Array.foldl_toList,Array.toList_zip]
         rw[p]at S;let F:Frame:={ (default:Frame) with fn:=f,kind:=.normal,roundOf:=some gB.b };have G:RO gC (some l) F.roundOf:=⟨gB,C,rfl⟩;obtain⟨C1,w1,a1,H,T,q3⟩:=bi hm f n a (Qt P gA m) I m (some l) Z gC E1 [] gD { tmps:=(B.toList.zip z).foldl (λg (t,a)=>g.setIfInBounds t a) D,defers:=[] } w F .normal E2 [] H2
          ⟨A,R,.nil⟩ rfl G M [.beginRound,.code b] (c::cs)
         obtain⟨w2,r1,r2⟩:=Z9 (P:=P) O T.rel (H.keep _ _ _ C);obtain⟨C2,w3,a3,s1,s2,V⟩:=bi hm f n b (Qt P gA m) I m (some l) Z C1 E2 [] N a1 w2 F x E3 [] H3 ⟨r2,T.env,T.defs⟩ rfl (G.mono H) Q [] (c::cs);obtain⟨w4,xv,X,t2,t3⟩:=znv (P:=P) h s2.rel (s1.keep _ _ _ (H.keep _ _ _ C));refine⟨C2,w4,xv,f,_,a,b,CM.le_trans H s1,t2,t3,S,?_⟩;have j:Frame.round gB.b f ((B.toList.zip z).foldl (λg (t,a)=>g.setIfInBounds t a) D) a b .normal=F.atR { tmps:=(B.toList.zip z).foldl (λg (t,a)=>g.setIfInBounds t a) D,defers:=[] } [.code a,.beginRound,.code b]:=by
          simp[Frame.round,Frame.atR,F]
         rw[j];refine Steps.trans q3 (.head (stepR_beginRound rfl r1) ?_);cases x with
         |normal=>exact Steps.trans V (.one (stepR_round_end rfl rfl X))
         |ret =>
          obtain⟨k1,s⟩:=V;exact Steps.trans s (.one (stepR_round_ret rfl rfl X))
         |exit id =>
          obtain⟨k1,e,s⟩:=V;exact Steps.trans s (.one (stepR_round_exit rfl rfl e X))
        ·cases h
     ·cases h
   ·cases h
def Rel.start(w:World):Rel w ⟨λ_ _=>none,0⟩ ⟨.e,0⟩ w :=
 ⟨rfl,.refl _ _,λ_ _ _ h=>Al,λ_ _ _ h=>Al,λ_ _ _ _ _ _ h=>Al,λ_ _ h=>absurd h (Lz _),λ_ _ _ _ _ h=>absurd h (Lz _)⟩
end
section
open Go.RowKit Go.ChangeShapes Go.WideShapes Go.ChangeAt
variable {H : Type} {enc : TypeId × Value → H} {P : Program}
def zrv{f:Func}{s:ChangeSpec}{j F:Bool}{W:World}{args:Array Value}{v:Value}{L gs:List (DataW H)}{g pa pv:List MemPlace}
  (Q:DataW.Whole enc P f.params.toList s.vars I W args.toList L gs g)
  (D:∀(b:Nat) (G:Nat→Bool) (hd:Bool),DataW.TrodAll enc P B b G hd f.resultTypes.toList (v.resultList f.resultTypes.size) (s.fn H (L++gs)).results [])
  (z:∀G:Nat→Bool,(∀p∈g,G p.block=true)→DataW.TrodAll enc P B 0 G true f.params.toList args.toList (s.fn H (L++gs)).args pa)
  (A:∀G:Nat→Bool,(∀p∈g,G p.block=true)→DataW.TrodVars enc P B G s.vars (s.fn H (L++gs)).vars pv)
  (C:g=pa++pv) (S:Below W.heap.size W B)
  (R:∀(Y:Nat) (t:TypeId) (r:Value),f.resultTypes[Y]?=some t→(v.resultList f.resultTypes.size)[Y]?=some r→Value.okWide P B .any 0 t r) :
  s.post enc P f I vN j F W args v B:=by
 have M:=Q.lt;obtain⟨_,_,_,_,_,T,V⟩:=id Q;have N:∀p∈g,(λb=>decide (b<W.heap.size)) p.block=true:=λp E=>by simpa using M p E
 refine⟨L,gs,g,[],pa,pv,Q,D _ _ _,z _ N,A _ N,World.keptBut_mono (λp E=>⟨E,.inr (Ib.1 (C ▸ E))⟩) (S.frame (·∈g)),λ_=>?_⟩;refine⟨R,_,_,([]++pa)++pv,⟨[]++pa,pv,trodAll_append (z _ (λ_ _=>rfl)) (D _ _ _),A _ (λ_ _=>rfl),rfl,λb K E=>?_,λX=>?_⟩,λp E _=>by rw[C];simpa using E⟩
 ·have O:MemPlace.cell b K∈g:=by rw[C];simpa using E
  rw[S.frozen (p:=⟨b,K,none⟩) (M _ O)];exact T b K O
 ·have:=V X;rw[C]at this;simpa using this
end
def Pw.le(k k':Pw):Prop:=∀t a H v H',k t a H=.ok v H'→k' t a H=.ok v H'
def um{n:Nat}{ops:Array Oper}{o:Oper}{k B:Pw}(E:k.le B)(h:(Py p n ops o).run k F A=.ok vY S):(Py p n ops o).run B F A=.ok vY S:=by
 unfold Py at h ⊢;cases C:P7 n o.dst with
 |none=>rw[C]at h;cases h
 |some H =>
  rw[C]at h;dsimp only at h ⊢;cases D:(Rh ops o).run F with
  |false=>rw[D]at h;exact h
  |true =>
   rw[D]at h;dsimp only at h ⊢;cases j:(Nj p o.op).run F A with
   |no=>rw[j]at h;cases h
   |val v G=>rw[j]at h;exact h
   |call t g =>
    rw[j]at h;dsimp only at h ⊢;cases z:k t g A with
    |no=>rw[z]at h;cases h
    |ok v G=>rw[z]at h;rw[E _ _ _ _ _ z];exact h
def yi{r:OE}{f:Tr AV→Heap→OE}(h:(OE.rec .no f r:OE)=.ok F A):∃g j,r=.ok g j∧f g j=.ok F A:=by
 cases r with
 |no=>cases h
 |ok g j=>exact⟨g,j,rfl,h⟩
def zas{E:Program}{n:Nat}{ops:Array Oper}{k p:Pw}(z:k.le p):∀{l:List Oper} {A g:Tr AV} {B j:Heap},(ac E n ops l).run k A B=.ok g j→(ac E n ops l).run p A B=.ok g j
 |[],_,_,_,_,h=>h
 |o::l,A,g,B,j,h=>by
  simp only[ac]at h ⊢;obtain⟨F,G,C,D⟩:=yi h;rw[um z C];exact zas z D
def tq{L:Program}{n:Nat}{ops:Array Oper}{k H:Pw}(j:k.le H):∀{l g:List DOp} {I A:Tr AV} {K B:Heap},(Tc L n ops l g).run k I K=.ok A B→(Tc L n ops l g).run H I K=.ok A B
 |[],_,_,_,_,_,h=>h
 |x::l,g,I,A,K,B,h=>by
  simp only[Tc]at h ⊢;split at h
  ·rename_i C;obtain⟨D,E,p,z⟩:=yi h;dsimp only;rw[um j p];exact tq j z
  ·rename_i C;obtain⟨D,E,p,z⟩:=yi h;dsimp only;rw[um j p];exact tq j z
  ·rename_i C;obtain⟨D,E,p,z⟩:=yi h;obtain⟨F,G⟩:=z8t z;dsimp only;rw[um j p];dsimp only;rw[F];exact tq j G
  ·rename_i C;obtain⟨D,E,p,z⟩:=yi h;obtain⟨F,G⟩:=z8t z;dsimp only;rw[um j p];dsimp only;rw[F];exact tq j G
def zkf{n:Nat}{ops:Array Oper}{k g:Pw}(j:k.le g)(h:(n9 p n ops).run k F A=.ok vY S):(n9 p n ops).run g F A=.ok vY S:=by
 unfold n9 at h ⊢;dsimp only at h ⊢;split at h
 ·exact tq j h
 ·cases h
def zb6{f F:Tr AV→List Nat→Heap→Res}(D:∀A B C x g j p,f A B C=.ok x g j p→F A B C=.ok x g j p):∀{m z:Nat},m≤z→∀{A B C x g j p},Xx f m A B C=.ok x g j p→Xx F z A B C=.ok x g j p
 |0,_,_,_,_,_,_,_,_,_,h=>Al
 |m+1,0,hm,_,_,_,_,_,_,_,_=>J
 |m+1,z+1,hm,A,B,C,x,g,j,p,h=>by
  simp only[Xx]at h ⊢;split at h
  ·cases h
  ·rename_i y G H I E;rw[D _ _ _ _ _ _ _ E];dsimp only;split at h
   ·exact zb6 D J h
   ·exact h
def jt{P:Program}{f n:Nat}{k M:Pw}(H:k.le M){m:Nat}(hm:m≤g):∀(c:Code) {A:Tr AV} {B:List Nat} {C:Heap} {x:Ex} {j:Tr AV} {p:List Nat} {z:Heap},
  (Ot P f n c).run k m T A B C=.ok x j p z→(Ot P f n c).run M g T A B C=.ok x j p z:=by
 intro c
 induction c with
 |skip=>intro A B C x j p z h;exact h
 |region id ops draw =>
  intro A B C x j p z h;simp only[Ot]at h ⊢;cases draw with
  |true =>
   dsimp only at h ⊢;split at h
   ·cases h
   ·rename_i I K D;rw[zkf H D];exact h
  |false =>
   dsimp only at h ⊢;split at h
   ·cases h
   ·rename_i I K D;rw[zas H D];exact h
 |seq a b E F =>
  intro A B C x j p z h;simp only[Ot]at h ⊢;cases L:(Ot P f n a).run k m T A B C with
  |no=>rw[L]at h;cases h
  |ok y I N K =>
   rw[L]at h;rw[E L];dsimp only at h ⊢;cases y with
   |normal=>exact F h
   |exit id=>exact h
   |ret=>exact h
 |cond c a b E F =>
  intro A B C x j p z h;simp only[Ot]at h ⊢;split at h
  ·split at h
   ·exact E h
   ·exact F h
  ·cases h
 |block id c G =>
  intro A B C x j p z h;simp only[Ot]at h ⊢;split at h
  ·cases h
  ·rename_i y I N K D;rw[G D];exact h
 |loop c G =>
  intro A B C x j p z h;simp only[Ot]at h ⊢;exact zb6 (λA B C x j p z h=>G h) hm h
 |rangeFunc R O a b _ _ =>
  intro A B C x j p z h;simp only[Ot]at h ⊢;split at h
  ·cases h
  ·split at h
   ·cases h
   ·split at h
    ·split at h
     ·cases h
     ·rename_i v Q D;rw[H _ _ _ _ _ D];exact h
    ·cases h
 |exit id=>intro A B C x j p z h;exact h
 |scope c G=>intro A B C x j p z h;exact G h
 |label l=>intro A B C x j p z h;exact h
 |ret=>intro A B C x j p z h;exact h
 |_=>intro A B C x j p z h;cases h
def zp9{P:Program}{f:Nat}{k z:Pw}(F:k.le z){m:Nat}(hm:m≤g){v:AV}(h:(o9 P f).run k m H A=.ok v S):(o9 P f).run z g H A=.ok v S:=by
 unfold o9 at h ⊢;cases B:P.funcs[f]? with
 |none=>rw[B]at h;cases h
 |some fn =>
  rw[B]at h;dsimp only at h ⊢;cases C:fn.body with
  |none=>rw[C]at h;cases h
  |some j =>
   rw[C]at h;dsimp only at h ⊢;by_cases D:fn.ntmps≤M1
   ·rw[Hs D]at h ⊢;dsimp only at h ⊢;cases E:Nat.ble H.length fn.ntmps with
    |false=>rw[E]at h;cases h
    |true =>
     rw[E]at h;dsimp only at h ⊢;cases p:(Ot P f fn.ntmps j).run k m none (Ou H 0 .e) [] A with
     |no=>rw[p]at h;cases h
     |ok x I K G=>rw[p]at h;rw[jt F hm _ p];exact h
   ·rw[Hq D]at h;cases h
def ai{P:Program}{O:Pw}:∀{m g:Nat},m≤g→Pw.le (Qt P O m) (Qt P O g)
 |0,_,_=>λt a I v D h=>Al
 |m+1,0,h=>J
 |m+1,g+1,hm=>by
  have j:=ai (P:=P) (O:=O) (J:m≤g);intro t a I v D h;unfold Qt at h ⊢;cases t with
  |fn f =>
   dsimp only at h ⊢;cases A:O (.fn f) a I with
   |no=>rw[A]at h;exact zp9 j J h
   |ok K L=>rw[A]at h;exact h
  |yield l =>
   dsimp only at h ⊢;split at h
   ·rename_i f n M E N b d Q;cases B:wh E.toList a n M with
    |none=>rw[B]at h;cases h
    |some R =>
     rw[B]at h;dsimp only at h ⊢;split at h
     ·rename_i F G H;rw[jt j J _ H];dsimp only;cases C:zq0 l G with
      |none=>rw[C]at h;cases h
      |some p =>
       rw[C]at h;dsimp only at h ⊢;cases z:(Ot P f n b).run (Qt P O m) m (some l) F [] p with
       |no=>rw[z]at h;cases h
       |ok x S V T=>rw[z]at h;rw[jt j J _ z];exact h
     ·cases h
   ·cases h
section
noncomputable section
abbrev Yn:=Nat→Option AV
def Tf(E:Tr AV)(ρ:Yn):Prop:=∀t,t≤M1→Mm (Mx t) E=ρ t
inductive Ox where
 |t (i:Nat)
 |c (a:AV)
def Ox.ev(ρ:Yn):Ox→AV
 |.t i=>(ρ i).getD Qv
 |.c a=>a
def Nn:Operand→Option Ox
 |.tmp t=>if t≤M1 then some (.t t) else none
 |.const v=>(Uy v).map .c
 |.func f=>some (.c (.fn (.func f) [] []))
 |.global _=>none
def Se{x:Operand}{r:Ox}(h:Nn x=some r){E:Tr AV}{ρ:Yn}(p:Tf E ρ):(M0 x).run E=some (r.ev ρ):=by
 cases x with
 |tmp t =>
  simp only[Nn]at h;split at h
  ·rename_i j;cases h;unfold M0;dsimp only;rw[Ho j];dsimp only;rw[p t j];simp only[Ox.ev];cases ρ t<;>rfl
  ·cases h
 |const v =>
  simp only[Nn]at h;cases g:Uy v with
  |none=>rw[g]at h;cases h
  |some a=>rw[g]at h;cases h;unfold M0;dsimp only;rw[g];rfl
 |global z=>cases h
 |func f=>cases h;rfl
def ak:List Operand→Option (List Ox)
 |[]=>some []
 |x::l=>match Nn x with
  |none=>none
  |some r=>match ak l with
   |none=>none
   |some g=>some (r::g)
def resOs_ok:∀{l:List Operand} {g:List Ox},ak l=some g→∀{E:Tr AV} {ρ:Yn},Tf E ρ→(opds l).run E=some (g.map (·.ev ρ))
 |[],g,h,E,ρ,j=>Bw
 |x::l,g,h,E,ρ,j=>by
  simp only[ak]at h;cases p:Nn x with
  |none=>rw[p]at h;cases h
  |some r =>
   rw[p]at h;dsimp only at h;cases z:ak l with
   |none=>rw[z]at h;cases h
   |some A =>
    rw[z]at h;cases h;unfold opds;dsimp only;rw[Se p j,resOs_ok z j];rfl
def am:Option Operand→Option (Option Ox)
 |none=>some none
 |some x=>match Nn x with
  |none=>none
  |some r=>some (some r)
def Oj(ρ:Yn):Option Ox→Option (Option Nat)
 |none=>some none
 |some r=>match r.ev ρ with
  |.int _ (.ofNat n)=>some (some n)
  |_=>none
def je{x:Option Operand}{r:Option Ox}(h:am x=some r){E:Tr AV}{ρ:Yn}(j:Tf E ρ):(O2 x).run E=Oj ρ r:=by
 cases x with
 |none=>cases h;rfl
 |some x =>
  simp only[am]at h;cases g:Nn x with
  |none=>rw[g]at h;cases h
  |some q =>
   rw[g]at h;cases h;unfold O2 Oj;dsimp only;rw[Se g j];generalize q.ev ρ=a;split
   ·rename_i n e;cases e;rfl
   ·rename_i e;split
    ·rename_i k n;exact absurd rfl (e k n)
    ·rfl
inductive ROp where
 |move (x:Ox)
 |pick (c a b:Ox)
 |alloc (l:List AV)
 |box (x:Ox)
 |build (cs:List AV) (ps:List (Nat×Nat×Ox))
 |buildSl (size len:Nat) (cs:List AV) (ps:List (Nat×Nat×Ox))
 |load1 (x:Ox)
 |loadN (n:Nat) (x:Ox)
 |store (n:Nat) (x y:Ox)
 |nilChk (x:Ox)
 |bin (op:BinOp) (g:Bool) (t:TypeId) (x y:Ox)
 |un (op:UnOp) (x:Ox)
 |cvInt (k:IntKind) (x:Ox)
 |cvStr (x:Ox)
 |cvSame (x:Ox)
 |cvBytes (x:Ox)
 |mkIface (t:TypeId) (x:Ox)
 |mkFunc (f:Fn) (first cap:List Ox)
 |mkMap0
 |mkMap1 (x:Ox)
 |mkSl (size:Nat) (z:List AV) (l c:Ox)
 |slStr (x:Ox) (lo hi:Option Ox)
 |slSl (size:Nat) (x:Ox) (lo hi mx:Option Ox)
 |slArr (n size:Nat) (x:Ox) (lo hi mx:Option Ox)
 |fieldAddr (off:Nat) (x:Ox)
 |field (g:Bool) (n off:Nat) (x:Ox)
 |ixAddr (size:Nat) (x i:Ox)
 |ixAddrArr (len size:Nat) (x i:Ox)
 |ixStr (x i:Ox)
 |ixArr (g:Bool) (len size:Nat) (x i:Ox)
 |lookup (d:TypeDesc) (z:AV) (ok:Bool) (x i:Ox)
 |mapUpd (d:TypeDesc) (m k v:Ox)
 |range (x:Ox)
 |next (x:Ox)
 |assert (z:AV) (ok:Bool) (t:TypeId) (x:Ox)
 |extract (i:Nat) (x:Ox)
 |lenStr (x:Ox)
 |lenSl (x:Ox)
 |lenMap (x:Ox)
 |lenArr (n:Nat) (x:Ox)
 |cap (x:Ox)
 |maxi (mx:Bool) (l:List Ox)
 |appZ (size:Nat) (z:List AV) (s x:Ox)
 |appG (size:Nat) (s x:Ox)
 |copy (size:Nat) (d x:Ox)
 |clear (size:Nat) (z:List AV) (x:Ox)
 |delete (d:TypeDesc) (m k:Ox)
 |callV (f:Ox) (args:List Ox)
 |invoke (r:Ox) (name:String) (args:List Ox)
def ql(ρ:Yn)(cs:List AV):List (Nat×Nat×Ox)→Option (List AV)
 |[]=>some cs
 |(j,g,x)::p=>match (x.ev ρ).cells with
  |none=>none
  |some l=>match Nat.beq l.length g with
   |true=>match Nat.ble (Nat.add j g) cs.length with
    |true=>ql ρ (Sx cs j l) p
    |false=>none
   |false=>none
def Nu(P:Program)(ρ:Yn)(j:Heap):ROp→OR
 |.move x=>.val (x.ev ρ) j
 |.pick c a b=>match c.ev ρ with
  |.bool true=>.val (a.ev ρ) j
  |.bool false=>.val (b.ev ρ) j
  |_=>.no
 |.alloc l=>Us j l
 |.box x=>match (x.ev ρ).cells with
  |some l=>Us j l
  |none=>.no
 |.build Q R=>match ql ρ Q R with
  |some l=>.val (.agg l) j
  |none=>.no
 |.buildSl g len Q R=>match ql ρ Q R with
  |some l=>match newObj j l with
   |some (o,C)=>.val (.sl o 0 0 len g (some len)) C
   |none=>.no
  |none=>.no
 |.load1 x=>match x.ev ρ with
  |.ptr o v i=>match Pa j o v i 1 with
   |some [c]=>.val c j
   |_=>.no
  |_=>.no
 |.loadN n x=>match x.ev ρ with
  |.ptr o v i=>match Pa j o v i n with
   |some l=>.val (.agg l) j
   |none=>.no
  |_=>.no
 |.store n x y=>match x.ev ρ with
  |.ptr o v i=>match (y.ev ρ).cells with
   |some l=>match Nat.beq l.length n with
    |true=>match Ty j o v i l with
     |some C=>.val Qv C
     |none=>.no
    |false=>.no
   |none=>.no
  |_=>.no
 |.nilChk x=>ol j (x.ev ρ)
 |.bin op T t x y=>ret1 j (Oh P op T t (x.ev ρ) (y.ev ρ))
 |.un op x=>ret1 j (unA op (x.ev ρ))
 |.cvInt k x=>match x.ev ρ with
  |.int _ n=>.val (.int k (To k n)) j
  |_=>.no
 |.cvStr x=>match x.ev ρ with
  |.nilSl=>.val (.str 0 0) j
  |.sl o v i len 1 _=>match Pa j o v i len with
   |some l=>match T7.bytesA l with
    |some n=>.val (.str len n) j
    |none=>.no
   |none=>.no
  |_=>.no
 |.cvSame x=>match x.ev ρ with
  |.str l n=>.val (.str l n) j
  |_=>.no
 |.cvBytes x=>match x.ev ρ with
  |.str len n=>match newObj j ((T5 len n).map λ(b:Nat)=>AV.int .u8 (Int.ofNat b)) with
   |some (o,C)=>.val (.sl o 0 0 len 1 none) C
   |none=>.no
  |_=>.no
 |.mkIface t x=>.val (.iface t (x.ev ρ)) j
 |.mkFunc f first cap=>.val (.fn f (first.map (·.ev ρ)) (cap.map (·.ev ρ))) j
 |.mkMap0=>V2 j
 |.mkMap1 x=>match x.ev ρ with
  |.int _ _=>V2 j
  |_=>.no
 |.mkSl g L l c=>match l.ev ρ,c.ev ρ with
  |.int .i64 (.ofNat l),.int .i64 (.ofNat c)=>match Nat.ble l c with
   |true=>match Nat.ble c 1048576 with
    |true=>match newObj j (R4 L c) with
     |some (o,C)=>.val (.sl o 0 0 l g (some c)) C
     |none=>.no
    |false=>.no
   |false=>.no
  |_,_=>.no
 |.slStr x A B=>match x.ev ρ,Oj ρ A,Oj ρ B with
  |.str len n,some A,some B =>
   let l:=A.getD 0;let h:=B.getD len
   match Nat.ble l h with
   |true=>match Nat.ble h len with
    |true=>.val (.str (Nat.sub h l) (Nat.mod (Nat.div n (Nat.pow 256 l)) (Nat.pow 256 (Nat.sub h l)))) j
    |false=>.no
   |false=>.no
  |_,_,_=>.no
 |.slSl g x A B H=>match x.ev ρ,Oj ρ A,Oj ρ B,Oj ρ H with
  |.sl o v i len z M,some A,some B,some H=>ret1 j (Tu g A B H o v i len z M)
  |.nilSl,some A,some B,some none=>match Nat.beq (Nat.add (A.getD 0) (B.getD 0)) 0 with
   |true=>.val .nilSl j
   |false=>.no
  |.emp,some A,some B,some none=>match Nat.beq (Nat.add (A.getD 0) (B.getD 0)) 0 with
   |true=>.val .emp j
   |false=>.no
  |_,_,_,_=>.no
 |.slArr n g x A B H=>match x.ev ρ,Oj ρ A,Oj ρ B,Oj ρ H with
  |.ptr o v i,some A,some B,some H=>match j.get o with
   |some (.cells _ N S false)=>match Nat.beq v S with
    |true=>match Nat.ble (Nat.add i (Nat.mul n g)) N with
     |true=>ret1 j (Tu g A B H o v i n g (some n))
     |false=>.no
    |false=>.no
   |_=>.no
  |_,_,_,_=>.no
 |.fieldAddr I x=>match x.ev ρ with
  |.ptr o v i=>.val (.ptr o v (Nat.add i I)) j
  |_=>.no
 |.field T n I x=>match x.ev ρ with
  |.agg l=>ret1 j (W5 T n l I)
  |_=>.no
 |.ixAddr g x i=>match x.ev ρ,i.ev ρ with
  |.sl o v i len z _,.int _ (.ofNat n)=>match Nat.blt n len with
   |true=>match Nat.beq z g with
    |true=>.val (.ptr o v (Nat.add i (Nat.mul n z))) j
    |false=>.no
   |false=>.no
  |_,_=>.no
 |.ixAddrArr len g x i=>match x.ev ρ,i.ev ρ with
  |.ptr o v i,.int _ (.ofNat n)=>match Nat.blt n len with
   |true=>.val (.ptr o v (Nat.add i (Nat.mul n g))) j
   |false=>.no
  |_,_=>.no
 |.ixStr x i=>match x.ev ρ,i.ev ρ with
  |.str len n,.int _ (.ofNat i)=>match Nat.blt i len with
   |true=>.val (.int .u8 (Int.ofNat (Nat.mod (Nat.div n (Nat.pow 256 i)) 256))) j
   |false=>.no
  |_,_=>.no
 |.ixArr T len g x i=>match x.ev ρ,i.ev ρ with
  |.agg l,.int _ (.ofNat n)=>match Nat.blt n len with
   |true=>ret1 j (W5 T g l (Nat.mul n g))
   |false=>.no
  |_,_=>.no
 |.lookup d L ok x i=>match vy j (x.ev ρ) with
  |none=>.no
  |some K=>match ju d (i.ev ρ) K with
   |some (some v)=>.val (if ok then .tup [v,.bool true] else v) j
   |some none=>.val (if ok then .tup [L,.bool false] else L) j
   |none=>.no
 |.mapUpd d m k v=>match m.ev ρ with
  |.map o=>match j.get o with
   |some (.map K p)=>match lr d (k.ev ρ) (v.ev ρ) p K with
    |some (D,true)=>.val Qv (j.put o (.map D (Nat.add p 1)))
    |some (D,false)=>.val Qv (j.put o (.map D p))
    |none=>.no
   |_=>.no
  |_=>.no
 |.range x=>match x.ev ρ with
  |.str len n=>.val (.ptr j.next 0 0) (j.push (.iter len n 0))
  |_=>.no
 |.next x=>match x.ev ρ with
  |.ptr o 0 0=>match j.get o with
   |some (.iter len n F)=>match Nat.blt F len with
    |true=>match Nat.blt (Nat.mod (Nat.div n (Nat.pow 256 F)) 256) 128 with
     |true=>.val (.tup [.bool true,.int .i64 (Int.ofNat F),.int .i32 (Int.ofNat (Nat.mod (Nat.div n (Nat.pow 256 F)) 256))]) (j.put o (.iter len n (Nat.add F 1)))
     |false=>.no
    |false=>.val (.tup [.bool false]) j
   |_=>.no
  |_=>.no
 |.assert L ok t x=>match x.ev ρ with
  |.nilIf=>if ok then .val (.tup [L,.bool false]) j else .no
  |.iface V v=>match Nat.beq V t with
   |true=>.val (if ok then .tup [v,.bool true] else v) j
   |false=>if ok then .val (.tup [L,.bool false]) j else .no
  |_=>.no
 |.extract i x=>match x.ev ρ with
  |.tup l=>ret1 j l[i]?
  |_=>.no
 |.lenStr x=>match x.ev ρ with
  |.str l _=>.val (.int .i64 (Int.ofNat l)) j
  |_=>.no
 |.lenSl x=>match x.ev ρ with
  |.sl _ _ _ len _ _=>.val (.int .i64 (Int.ofNat len)) j
  |.nilSl=>.val (.int .i64 0) j
  |.emp=>.val (.int .i64 0) j
  |_=>.no
 |.lenMap x=>match x.ev ρ with
  |.nilMap=>.val (.int .i64 0) j
  |.map o=>match j.get o with
   |some (.map K _)=>.val (.int .i64 (Int.ofNat K.length)) j
   |_=>.no
  |_=>.no
 |.lenArr n _=>.val (.int .i64 (Int.ofNat n)) j
 |.cap x=>match x.ev ρ with
  |.nilSl=>.val (.int .i64 0) j
  |.sl _ _ _ _ _ (some r)=>.val (.int .i64 (Int.ofNat r)) j
  |_=>.no
 |.maxi H l=>match (l.map (λ(x:Ox)=>x.ev ρ):List AV) with
  |.int k n::l=>ret1 j (Wj H (.int k n) l)
  |_=>.no
 |.appZ g L s x=>match x.ev ρ with
  |.int .i64 (.ofNat n)=>match Nat.ble n 1048576 with
   |true=>Ub j g (s.ev ρ) n (R4 L n)
   |false=>.no
  |_=>.no
 |.appG g s x=>match W6 j g (x.ev ρ) with
  |some (n,l)=>match Nat.ble n 1048576 with
   |true=>Ub j g (s.ev ρ) n l
   |false=>.no
  |none=>.no
 |.copy g d x=>match W6 j g (x.ev ρ) with
  |some (n,l)=>match d.ev ρ with
   |.nilSl=>.val (.int .i64 0) j
   |.emp=>.val (.int .i64 0) j
   |.sl o v i len z _=>match Nat.beq z g with
    |true=>match Ty j o v i (l.take (Nat.mul (O0 n len) g)) with
     |some C=>.val (.int .i64 (Int.ofNat (O0 n len))) C
     |none=>.no
    |false=>.no
   |_=>.no
  |none=>.no
 |.clear g L x=>match x.ev ρ with
  |.nilSl=>.val Qv j
  |.emp=>.val Qv j
  |.sl o v i len z _=>match Nat.beq z g with
   |true=>match Ty j o v i (R4 L len) with
    |some C=>.val Qv C
    |none=>.no
   |false=>.no
  |_=>.no
 |.delete d m k=>match m.ev ρ with
  |.map o=>match j.get o with
   |some (.map K p)=>match zl d (k.ev ρ) K with
    |some D=>.val Qv (j.put o (.map D p))
    |none=>.no
   |_=>.no
  |_=>.no
 |.callV f G=>wm P j (f.ev ρ) (G.map (·.ev ρ))
 |.invoke r O G=>match r.ev ρ with
  |.iface t v=>match x7 P t O with
   |some f=>match gt P f with
    |true=>.call (.fn f) (v::G.map (·.ev ρ))
    |false=>.no
   |none=>.no
  |_=>.no
def ag(g:Nat→Option (Nat×Nat)):List (Nat×Operand)→Option (List (Nat×Nat×Ox))
 |[]=>some []
 |(i,x)::l=>match g i with
  |none=>none
  |some (o,s)=>match Nn x with
   |none=>none
   |some r=>match ag g l with
    |none=>none
    |some q=>some ((o,s,r)::q)
def Od(x:Operand)(f:Ox→ROp):Option ROp:=match Nn x with
 |none=>none
 |some r=>some (f r)
def Qr(x y:Operand)(f:Ox→Ox→ROp):Option ROp:=match Nn x with
 |none=>none
 |some r=>match Nn y with
  |none=>none
  |some q=>some (f r q)
def zf1(g:Nat)(f:Nat→Ox→Option Ox→Option Ox→Option Ox→ROp)(x:Operand)(j p z:Option Operand):Option ROp :=
 match Nn x,am j,am p,am z with
 |some r,some a,some b,some c=>some (f g r a b c)
 |_,_,_,_=>none
def zoi(P:Program)(c:Call):Option ROp :=
 match c.callee with
 |.builtin b=>match b with
  |.len=>match c.argTypes.toList,c.args.toList with
   |[t],[x]=>match P.underlying t with
    |some .string=>Od x .lenStr
    |some (.slice _)=>Od x .lenSl
    |some (.map _ _)=>Od x .lenMap
    |some (.array n _)=>Od x (.lenArr n)
    |_=>none
   |_,_=>none
  |.cap=>match c.argTypes.toList,c.args.toList with
   |[t],[x]=>match P.underlying t with
    |some (.slice _)=>Od x .cap
    |_=>none
   |_,_=>none
  |.max=>match ak c.args.toList with
   |some l=>some (.maxi true l)
   |none=>none
  |.min=>match ak c.args.toList with
   |some l=>some (.maxi false l)
   |none=>none
  |.append=>match c.argTypes.toList,c.args.toList with
   |[st,A],[s,x]=>match P.underlying st,P.underlying A with
    |some (.slice g),some d=>match P.info? g,Rn P g with
     |some i,some B=>if 0<i.size∧i.bytes≤65536 then match d with
      |.int _=>Qr s x (.appZ i.size B)
      |.slice _=>Qr s x (.appG i.size)
      |.string=>Qr s x (.appG i.size)
      |_=>none
      else none
     |_,_=>none
    |_,_=>none
   |_,_=>none
  |.copy=>match c.argTypes.toList,c.args.toList with
   |[st,_],[d,x]=>match P.underlying st with
    |some (.slice g)=>match N7 P g with
     |none=>none
     |some j=>if 0<j then Qr d x (.copy j) else none
    |_=>none
   |_,_=>none
  |.clear=>match c.argTypes.toList,c.args.toList with
   |[st],[x]=>match P.underlying st with
    |some (.slice g)=>match N7 P g,Rn P g with
     |some j,some B=>if 0<j then Od x (.clear j B) else none
     |_,_=>none
    |_=>none
   |_,_=>none
  |.delete=>match c.argTypes.toList,c.args.toList with
   |[mt,_],[m,k]=>match P.underlying mt with
    |some (.map z _)=>match Ti P z with
     |some d=>Qr m k (.delete d)
     |none=>none
    |_=>none
   |_,_=>none
  |_=>none
 |.value f=>match Nn f,ak c.args.toList with
  |some C,some l=>some (.callV C l)
  |_,_=>none
 |.invoke r p=>match Nn r,ak c.args.toList with
  |some C,some l=>some (.invoke C p l)
  |_,_=>none
def Rg(P:Program)(o:Op):Option ROp :=
 match o with
 |.move x |.assign x=>Od x .move
 |.pick c a b=>match Nn c,Nn a,Nn b with
  |some c,some a,some b=>some (.pick c a b)
  |_,_,_=>none
 |.alloc t=>match Rn P t with
  |some l=>some (.alloc l)
  |none=>none
 |.box _ x=>Od x .box
 |.build t z=>match Rn P t with
  |none=>none
  |some H=>match P.underlying t with
   |some (.struct p)=>match td P p.toList with
    |none=>none
    |some I=>match ag (I[·]?) z.toList with
     |none=>none
     |some B=>some (.build H B)
   |some (.array _ g)=>match N7 P g with
    |none=>none
    |some j=>match ag (λi=>some (i*j,j)) z.toList with
     |none=>none
     |some B=>some (.build H B)
   |_=>none
 |.buildSlice t len z=>match P.underlying t with
  |some (.slice g)=>match N7 P g with
   |none=>none
   |some j=>match Rn P g with
    |none=>none
    |some F=>if len*j≤2^20∧0<j then
      match ag (λi=>some (i*j,j)) z.toList with
      |none=>none
      |some B=>some (.buildSl j len (R4 F len) B)
     else none
  |_=>none
 |.load t a=>match Ro P t,N7 P t with
  |some true,some n=>Od a (.loadN n)
  |some false,some _=>Od a .load1
  |_,_=>none
 |.store t a x=>match N7 P t with
  |some n=>Qr a x (.store n)
  |none=>none
 |.nilCheck x=>Od x .nilChk
 |.binOp op t x y _=>Qr x y (.bin op (Uv x || Uv y) t)
 |.unOp op _ x=>Od x (.un op)
 |.convert s d x=>match P.underlying s,P.underlying d with
  |some _,some (.int k)=>Od x (.cvInt k)
  |some (.slice e),some .string=>match P.underlying e with
   |some (.int .u8)=>Od x .cvStr
   |_=>none
  |some _,some .string=>Od x .cvSame
  |some _,some (.slice e)=>match P.underlying e,N7 P e with
   |some (.int .u8),some 1=>Od x .cvBytes
   |_,_=>none
  |_,_=>none
 |.makeInterface t x=>match P.underlying t with
  |some (.interface _)=>none
  |some _=>Od x (.mkIface t)
  |none=>none
 |.makeFunc f first cap=>match f with
  |.yield _=>none
  |f=>match ak first.toList,ak cap.toList with
   |some a,some b=>some (.mkFunc f a b)
   |_,_=>none
 |.makeMap t r=>match r with
  |none=>some .mkMap0
  |some x=>match P.underlying t with
   |some (.map _ _)=>Od x .mkMap1
   |_=>none
 |.makeSlice t l c=>match P.underlying t with
  |some (.slice g)=>match P.info? g with
   |none=>none
   |some i=>match Rn P g with
    |none=>none
    |some F=>if 0<i.size∧i.bytes≤2^16 then Qr l c (.mkSl i.size F) else none
  |_=>none
 |.slice t x G C D=>match P.underlying t with
  |some .string=>match D with
   |some _=>none
   |none=>match Nn x,am G,am C with
    |some r,some a,some b=>some (.slStr r a b)
    |_,_,_=>none
  |some (.slice g)=>if D.isSome&&C.isNone then none else match N7 P g with
   |none=>none
   |some j=>zf1 j .slSl x G C D
  |some (.array n g)=>if D.isSome&&C.isNone then none else match N7 P g with
   |none=>none
   |some j=>zf1 j (.slArr n) x G C D
  |_=>none
 |.fieldAddr s x f=>match P.underlying s with
  |some (.struct p)=>match p[f]? with
   |none=>none
   |some fd=>match N7 P fd.type with
    |none=>none
    |some 0=>none
    |some _=>Od x (.fieldAddr fd.offset)
  |_=>none
 |.field t x f=>match P.underlying t with
  |some (.struct p)=>match p[f]? with
   |none=>none
   |some fd=>match Ro P fd.type,N7 P fd.type with
    |some K,some n=>Od x (.field K n fd.offset)
    |_,_=>none
  |_=>none
 |.indexAddr t x i=>match P.underlying t with
  |some (.slice g)=>match N7 P g with
   |none=>none
   |some j=>Qr x i (.ixAddr j)
  |some (.array len g)=>match N7 P g with
   |none=>none
   |some j=>Qr x i (.ixAddrArr len j)
  |_=>none
 |.index t x i=>match P.underlying t with
  |some .string=>Qr x i .ixStr
  |some (.array len g)=>match Ro P g,N7 P g with
   |some K,some j=>Qr x i (.ixArr K len j)
   |_,_=>none
  |_=>none
 |.lookup t x i ok=>match P.underlying t with
  |some (.map A g)=>match Ti P A,oc P g with
   |some d,some F=>Qr x i (.lookup d F ok)
   |_,_=>none
  |_=>none
 |.mapUpdate t m k x |.insert t m k x=>match P.underlying t with
  |some (.map A _)=>match Ti P A with
   |some d=>match Nn m,Nn k,Nn x with
    |some m,some k,some x=>some (.mapUpd d m k x)
    |_,_,_=>none
   |none=>none
  |_=>none
 |.range t x=>match P.underlying t with
  |some .string=>Od x .range
  |_=>none
 |.next L s=>if s then Od L .next else none
 |.typeAssert x _ t ok=>match P.underlying t with
  |some (.interface _)=>none
  |some _=>match oc P t with
   |none=>none
   |some F=>Od x (.assert F ok t)
  |none=>none
 |.extract t i=>Od t (.extract i)
 |.call c=>zoi P c
 |_=>none
section ok
variable {P : Program} {E : Tr AV} {ρ : Yn}
def R9{x:Operand}{f:Ox→ROp}{r:ROp}(h:Od x f=some r):∃q,Nn x=some q∧r=f q:=by
 unfold Od at h;cases g:Nn x with
 |none=>rw[g]at h;cases h
 |some q=>rw[g]at h;cases h;exact⟨q,rfl,rfl⟩
def V3{x y:Operand}{f:Ox→Ox→ROp}{r:ROp}(h:Qr x y f=some r):∃q p,Nn x=some q∧Nn y=some p∧r=f q p:=by
 unfold Qr at h;cases g:Nn x with
 |none=>rw[g]at h;cases h
 |some q =>
  rw[g]at h;dsimp only at h;cases j:Nn y with
  |none=>rw[j]at h;cases h
  |some p=>rw[j]at h;cases h;exact⟨q,p,rfl,rfl,rfl⟩
def Sa(g:Tf E ρ){x:Operand}{q:Ox}(j:Nn x=some q)(f:Heap→AV→OR)(p:Heap):(Oy x f).run E p=f p (q.ev ρ):=by
 show (Option.rec OR.no (λa=>f p a) ((M0 x).run E):OR)=_;rw[Se j g]
def V1(g:Tf E ρ){x y:Operand}{q A:Ox}(j:Nn x=some q)(p:Nn y=some A)(f:Heap→AV→AV→OR)(z:Heap):(R5 x y f).run E z=f z (q.ev ρ) (A.ev ρ):=by
 show (Option.rec OR.no (λa=>Option.rec OR.no (λb=>f z a b) ((M0 y).run E)) ((M0 x).run E):OR)=_;rw[Se j g,Se p g]
def xh(B:Tf E ρ){g:Nat→Option (Nat×Nat)}:∀{l:List (Nat×Operand)} {p:List (Nat×Nat×Ox)} {cs:List AV},ag g l=some p→∃z,bj g l=some z∧Ym cs z E=ql ρ cs p
 |[],p,cs,h=>by cases h;exact⟨[],rfl,rfl⟩
 |(i,x)::l,p,cs,h=>by
  simp only[ag]at h;cases C:g i with
  |none=>rw[C]at h;cases h
  |some H =>
   obtain⟨o,s⟩:=H;rw[C]at h;dsimp only at h;cases D:Nn x with
   |none=>rw[D]at h;cases h
   |some r =>
    rw[D]at h;dsimp only at h;cases A:ag g l with
    |none=>rw[A]at h;cases h
    |some q =>
     rw[A]at h;cases h;obtain⟨z,G,_⟩:=xh B (cs:=cs) A;refine⟨⟨o,s,M0 x⟩::z,by simp only[bj,C,G],?_⟩;simp only[Ym,ql];rw[Se D B];dsimp only;cases (r.ev ρ).cells with
     |none=>rfl
     |some c =>
      dsimp only;cases Nat.beq c.length s with
      |false=>rfl
      |true =>
       dsimp only;cases Nat.ble (Nat.add o s) cs.length with
       |false=>rfl
       |true =>
        dsimp only;obtain⟨I,j,F⟩:=xh B (cs:=Sx cs o c) A;rw[G]at j;cases j;exact F
def zgv{f:Nat→Ox→Option Ox→Option Ox→Option Ox→ROp}{x:Operand}{j p z:Option Operand}{r:ROp}(h:zf1 g f x j p z=some r) :
  ∃q a b c,Nn x=some q∧am j=some a∧am p=some b∧am z=some c∧r=f g q a b c:=by
 unfold zf1 at h;split at h
 ·rename_i q a b c A B C D;cases h;exact⟨q,a,b,c,A,B,C,D,rfl⟩
 ·cases h
def zqz(j:Tf E ρ){c:Call}{r:ROp}(h:zoi P c=some r)(Y:Heap):(Za P c).run E Y=Nu P ρ Y r:=by
 unfold zoi at h;unfold Za;split at h
 ·rename_i b T;rw[T];dsimp only;split at h
  ·split at h
   ·rename_i t x z p;rw[z,p];dsimp only;unfold Tl;split at h<;>first
     |(cases h;done)
     | (rename_i hu
        obtain⟨q,g,rfl⟩:=R9 h;rw[hu];dsimp only;rw[Sa j g];rfl)
   ·cases h
  ·split at h
   ·rename_i t x z p;rw[z,p];dsimp only;unfold Uq;split at h
    ·rename_i hu;obtain⟨q,g,rfl⟩:=R9 h;rw[hu];dsimp only;rw[Sa j g];rfl
    ·cases h
   ·cases h
  ·split at h
   ·rename_i l D;cases h;simp only[Si,Nu];rw[resOs_ok D j];generalize (l.map λ(x:Ox)=>x.ev ρ)=F;rcases F with _|⟨v,F⟩
    ·rfl
    ·cases v<;>rfl
   ·cases h
  ·split at h
   ·rename_i l D;cases h;simp only[Si,Nu];rw[resOs_ok D j];generalize (l.map λ(x:Ox)=>x.ev ρ)=F;rcases F with _|⟨v,F⟩
    ·rfl
    ·cases v<;>rfl
   ·cases h
  ·split at h
   ·rename_i st R s x z p;unfold wo;rw[z,p];dsimp only;split at h
    ·rename_i C d K L;rw[K,L];split at h
     ·rename_i i gg M G;split at h
      ·rename_i N;split at h
       ·rename_i k;obtain⟨q,S,g,B,rfl⟩:=V3 h;dsimp only;unfold zr;rw[M,G];dsimp only;rw[Hs N,V1 j g B];rfl
       ·obtain⟨q,S,g,B,rfl⟩:=V3 h;dsimp only;unfold ku;rw[M,G];dsimp only;rw[Hs N,V1 j g B];rfl
       ·obtain⟨q,S,g,B,rfl⟩:=V3 h;dsimp only;unfold ku;rw[M,G];dsimp only;rw[Hs N,V1 j g B];rfl
       ·cases h
      ·cases h
     ·cases h
    ·cases h
   ·cases h
  ·split at h
   ·rename_i st R d x z p;unfold vx;rw[z,p];dsimp only;split at h
    ·rename_i C hu;rw[hu];dsimp only;split at h
     ·cases h
     ·rename_i H O;split at h
      ·rename_i A;obtain⟨q,S,g,B,rfl⟩:=V3 h;rw[O];dsimp only;rw[Hs A,V1 j g B];rfl
      ·cases h
    ·cases h
   ·cases h
  ·split at h
   ·rename_i st x z p;unfold yq;rw[z,p];dsimp only;split at h
    ·rename_i C hu;rw[hu];dsimp only;split at h
     ·rename_i H gg O G;split at h
      ·rename_i A;obtain⟨q,g,rfl⟩:=R9 h;rw[O,G];dsimp only;rw[Hs A,Sa j g];rfl
      ·cases h
     ·cases h
    ·cases h
   ·cases h
  ·split at h
   ·rename_i mt R m k z p;unfold yp;rw[z,p];dsimp only;split at h
    ·rename_i V e hu;rw[hu];dsimp only;split at h
     ·rename_i d hd;obtain⟨q,S,g,B,rfl⟩:=V3 h;rw[hd];dsimp only;rw[V1 j g B];rfl
     ·cases h
    ·cases h
   ·cases h
  ·cases h
 ·rename_i f X;rw[X];dsimp only;split at h
  ·rename_i Z l Q D;cases h;rw[Se Q j,resOs_ok D j];simp only[Nu]
  ·cases h
 ·rename_i x I p;rw[p];dsimp only;split at h
  ·rename_i Z l Q D;cases h;rw[Se Q j,resOs_ok D j];simp only[Nu];cases Z.ev ρ with
   |iface t v =>
    dsimp only;cases x7 P t I with
    |none=>rfl
    |some f =>
     dsimp only;cases gt P f<;>rfl
   |_=>rfl
  ·cases h
end ok
end
end
section
section ok
variable {P : Program} {E : Tr AV} {ρ : Yn}
def zqp(p:Tf E ρ){o:Op}{r:ROp}(h:Rg P o=some r)(O:Heap):(Nj P o).run E O=Nu P ρ O r:=by
 cases o with
 |move x =>
  obtain⟨q,g,rfl⟩:=R9 h;show (Oy x _).run E O=_;rw[Sa p g];rfl
 |assign x =>
  obtain⟨q,g,rfl⟩:=R9 h;show (Oy x _).run E O=_;rw[Sa p g];rfl
 |pick c a b =>
  simp only[Rg]at h;split at h
  ·rename_i L M Q g z C;cases h;simp only[Nj];rw[Se g p,Se z p,Se C p];simp only[Nu];generalize L.ev ρ=v;cases v with
   |bool t=>cases t<;>rfl
   |_=>rfl
  ·cases h
 |alloc t =>
  simp only[Rg]at h;simp only[Nj];cases G:Rn P t with
  |none=>rw[G]at h;cases h
  |some l=>rw[G]at h;cases h;rfl
 |box t x =>
  obtain⟨q,g,rfl⟩:=R9 h;show (Oy x _).run E O=_;rw[Sa p g];rfl
 |build t F =>
  simp only[Rg]at h;simp only[Nj,oi];cases G:Rn P t with
  |none=>rw[G]at h;cases h
  |some Z =>
   rw[G]at h;dsimp only at h ⊢;split at h
   ·rename_i B hu;rw[hu];dsimp only;cases I:td P B.toList with
    |none=>rw[I]at h;cases h
    |some pl =>
     rw[I]at h;dsimp only at h ⊢;cases H:ag (pl[·]?) F.toList with
     |none=>rw[H]at h;cases h
     |some ps =>
      rw[H]at h;cases h;obtain⟨qs,g,z⟩:=xh p (cs:=Z) H;rw[g];dsimp only;rw[z];rfl
   ·rename_i n j hu;rw[hu];dsimp only;cases D:N7 P j with
    |none=>rw[D]at h;cases h
    |some A =>
     rw[D]at h;dsimp only at h ⊢;cases H:ag (λi=>some (i*A,A)) F.toList with
     |none=>rw[H]at h;cases h
     |some ps =>
      rw[H]at h;cases h;obtain⟨qs,g,z⟩:=xh p (cs:=Z) H;rw[g];dsimp only;rw[z];rfl
   ·cases h
 |buildSlice t len F =>
  simp only[Rg]at h;simp only[Nj,lh];split at h
  ·rename_i j hu;rw[hu];dsimp only;cases D:N7 P j with
   |none=>rw[D]at h;cases h
   |some A =>
    rw[D]at h;dsimp only at h ⊢;cases G:Rn P j with
    |none=>rw[G]at h;cases h
    |some Y =>
     rw[G]at h;dsimp only at h ⊢;split at h
     ·rename_i K;rw[Hs K];cases H:ag (λi=>some (i*A,A)) F.toList with
      |none=>rw[H]at h;cases h
      |some ps =>
       rw[H]at h;cases h;obtain⟨qs,g,z⟩:=xh p (cs:=R4 Y len) H;rw[g];dsimp only;rw[z];rfl
     ·cases h
  ·cases h
 |load t a =>
  simp only[Rg]at h;simp only[Nj,nq];split at h
  ·rename_i n g z;obtain⟨q,C,rfl⟩:=R9 h;rw[g,z];dsimp only;rw[Sa p C];rfl
  ·rename_i n g z;obtain⟨q,C,rfl⟩:=R9 h;rw[g,z];dsimp only;rw[Sa p C];rfl
  ·cases h
 |store t a x =>
  simp only[Rg]at h;simp only[Nj,wd];cases D:N7 P t with
  |none=>rw[D]at h;cases h
  |some n =>
   rw[D]at h;obtain⟨q,R,g,z,rfl⟩:=V3 h;dsimp only;rw[V1 p g z];rfl
 |nilCheck x =>
  obtain⟨q,g,rfl⟩:=R9 h;show (Oy x _).run E O=_;rw[Sa p g];rfl
 |binOp op t x y yt =>
  obtain⟨q,R,g,z,rfl⟩:=V3 h;simp only[Nj];rw[V1 p g z];rfl
 |unOp op t x =>
  obtain⟨q,g,rfl⟩:=R9 h;show (Oy x _).run E O=_;rw[Sa p g];rfl
 |convert s d x =>
  simp only[Rg]at h;simp only[Nj];unfold T7;split at h
  ·rename_i S k g z;obtain⟨q,C,rfl⟩:=R9 h;rw[g,z];dsimp only;rw[Sa p C];rfl
  ·rename_i e g z;rw[g,z];dsimp only;split at h
   ·rename_i hu;rw[hu];dsimp only;obtain⟨q,C,rfl⟩:=R9 h;rw[Sa p C];rfl
   ·cases h
  ·rename_i S T g z;obtain⟨q,C,rfl⟩:=R9 h;rw[g,z];cases S with
   |slice e=>exact absurd rfl (T e)
   |_=>dsimp only;rw[Sa p C];rfl
  ·rename_i S e g z;rw[g,z];dsimp only;split at h
   ·rename_i k1 k2;obtain⟨q,C,rfl⟩:=R9 h;rw[k1,k2];exact (Sa p C _ _).trans rfl
   ·cases h
  ·cases h
 |makeInterface t x =>
  simp only[Rg]at h;simp only[Nj,mi];cases hu:P.underlying t with
  |none=>rw[hu]at h;cases h
  |some d =>
   rw[hu]at h;cases d with
   |interface ms=>cases h
   |_=>obtain⟨q,g,rfl⟩:=R9 h;dsimp only;rw[Sa p g];rfl
 |makeFunc f first cap =>
  simp only[Rg]at h;cases f with
  |yield l=>cases h
  |_ =>
   dsimp only at h;split at h
   ·rename_i a b g z;cases h;simp only[Nj,py];rw[resOs_ok g p,resOs_ok z p];rfl
   ·cases h
 |makeMap t r =>
  simp only[Rg]at h;simp only[Nj,jo];cases r with
  |none=>cases h;rfl
  |some x =>
   dsimp only at h ⊢;split at h
   ·rename_i k e hu;obtain⟨q,g,rfl⟩:=R9 h;rw[hu];dsimp only;rw[Sa p g];rfl
   ·cases h
 |makeSlice t l c =>
  simp only[Rg]at h;simp only[Nj,ir];split at h
  ·rename_i j hu;rw[hu];dsimp only;cases V:P.info? j with
   |none=>rw[V]at h;cases h
   |some i =>
    rw[V]at h;dsimp only at h ⊢;cases G:Rn P j with
    |none=>rw[G]at h;cases h
    |some Y =>
     rw[G]at h;dsimp only at h ⊢;split at h
     ·rename_i K;obtain⟨q,R,g,z,rfl⟩:=V3 h;rw[Hs K,V1 p g z];rfl
     ·cases h
  ·cases h
 |slice t x lo V mx =>
  simp only[Rg]at h;simp only[Nj,ic];split at h
  ·rename_i hu;rw[hu];dsimp only;cases mx with
   |some m=>cases h
   |none =>
    dsimp only at h ⊢;split at h
    ·rename_i q a b g z C;cases h;rw[Se g p,je z p,je C p];simp only[Nu];cases q.ev ρ with
     |str len n =>
      cases Oj ρ a with
      |none=>rfl
      |some M=>cases Oj ρ b<;>rfl
     |_=>rfl
    ·cases h
  ·rename_i j hu;rw[hu];dsimp only;split at h
   ·cases h
   ·rename_i K;rw[Hq K];cases D:N7 P j with
    |none=>rw[D]at h;cases h
    |some A =>
     rw[D]at h;obtain⟨q,a,b,c,g,z,C,X,rfl⟩:=zgv h;dsimp only;rw[Se g p,je z p,je C p,je X p];simp only[Nu];generalize q.ev ρ=v;generalize Oj ρ a=M;generalize Oj ρ b=Q;generalize Oj ρ c=L;cases v<;>cases M<;>cases Q<;>cases L<;>try rfl
     all_goals (rename_i Y;cases Y<;>rfl)
  ·rename_i n j hu;rw[hu];dsimp only;split at h
   ·cases h
   ·rename_i K;rw[Hq K];cases D:N7 P j with
    |none=>rw[D]at h;cases h
    |some A =>
     rw[D]at h;obtain⟨q,a,b,c,g,z,C,X,rfl⟩:=zgv h;dsimp only;rw[Se g p,je z p,je C p,je X p];simp only[Nu];generalize q.ev ρ=v;generalize Oj ρ a=M;generalize Oj ρ b=Q;generalize Oj ρ c=L;cases v<;>cases M<;>cases Q<;>cases L<;>rfl
  ·cases h
 |fieldAddr s x f =>
  simp only[Rg]at h;simp only[Nj,qj];split at h
  ·rename_i B hu;rw[hu];dsimp only;cases I:B[f]? with
   |none=>rw[I]at h;cases h
   |some fd =>
    rw[I]at h;dsimp only at h ⊢;split at h
    ·cases h
    ·cases h
    ·rename_i n hn D;obtain⟨q,g,rfl⟩:=R9 h;rw[D];cases n with
     |zero=>exact absurd rfl hn
     |succ n=>exact (Sa p g _ _).trans rfl
  ·cases h
 |field t x f =>
  simp only[Rg]at h;simp only[Nj,na];split at h
  ·rename_i B hu;rw[hu];dsimp only;cases I:B[f]? with
   |none=>rw[I]at h;cases h
   |some fd =>
    rw[I]at h;dsimp only at h ⊢;split at h
    ·rename_i gg n g z;obtain⟨q,C,rfl⟩:=R9 h;rw[g,z];dsimp only;rw[Sa p C];rfl
    ·cases h
  ·cases h
 |indexAddr t x i =>
  simp only[Rg]at h;simp only[Nj,mu];split at h
  ·rename_i j hu;rw[hu];dsimp only;cases D:N7 P j with
   |none=>rw[D]at h;cases h
   |some A =>
    rw[D]at h;obtain⟨q,R,g,z,rfl⟩:=V3 h;dsimp only;rw[V1 p g z];rfl
  ·rename_i len j hu;rw[hu];dsimp only;cases D:N7 P j with
   |none=>rw[D]at h;cases h
   |some A =>
    rw[D]at h;obtain⟨q,R,g,z,rfl⟩:=V3 h;dsimp only;rw[V1 p g z];rfl
  ·cases h
 |index t x i =>
  simp only[Rg]at h;simp only[Nj,qh];split at h
  ·rename_i hu;obtain⟨q,R,g,z,rfl⟩:=V3 h;rw[hu];dsimp only;rw[V1 p g z];rfl
  ·rename_i len j hu;rw[hu];dsimp only;split at h
   ·rename_i gg A hg D;obtain⟨q,R,g,z,rfl⟩:=V3 h;rw[hg,D];dsimp only;rw[V1 p g z];rfl
   ·cases h
  ·cases h
 |lookup t x i ok =>
  simp only[Rg]at h;simp only[Nj,nv];split at h
  ·rename_i N j hu;rw[hu];dsimp only;split at h
   ·rename_i d Y hd G;obtain⟨q,R,g,z,rfl⟩:=V3 h;rw[hd,G];dsimp only;rw[V1 p g z];rfl
   ·cases h
  ·cases h
 |mapUpdate t m k x =>
  simp only[Rg]at h;simp only[Nj,rv];split at h
  ·rename_i N j hu;rw[hu];dsimp only;split at h
   ·rename_i d hd;rw[hd];dsimp only;split at h
    ·rename_i a b c g z C;cases h;rw[Se g p,Se z p,Se C p];simp only[Nu];cases a.ev ρ<;>rfl
    ·cases h
   ·cases h
  ·cases h
 |insert t m k x =>
  simp only[Rg]at h;simp only[Nj,rv];split at h
  ·rename_i N j hu;rw[hu];dsimp only;split at h
   ·rename_i d hd;rw[hd];dsimp only;split at h
    ·rename_i a b c g z C;cases h;rw[Se g p,Se z p,Se C p];simp only[Nu];cases a.ev ρ<;>rfl
    ·cases h
   ·cases h
  ·cases h
 |range t x =>
  simp only[Rg]at h;simp only[Nj,rangeF];split at h
  ·rename_i hu;obtain⟨q,g,rfl⟩:=R9 h;rw[hu];dsimp only;rw[Sa p g];rfl
  ·cases h
 |next it s =>
  simp only[Rg]at h;simp only[Nj,vd];cases s with
  |false=>cases h
  |true =>
   obtain⟨q,g,rfl⟩:=R9 h;rw[Hs rfl,Sa p g];rfl
 |typeAssert x xt t ok =>
  simp only[Rg]at h;simp only[Nj,nm];cases hu:P.underlying t with
  |none=>rw[hu]at h;cases h
  |some d =>
   rw[hu]at h;cases d with
   |interface ms=>cases h
   |_ =>
    dsimp only at h ⊢;cases G:oc P t with
    |none=>rw[G]at h;cases h
    |some Y=>rw[G]at h;obtain⟨q,g,rfl⟩:=R9 h;dsimp only;rw[Sa p g];rfl
 |extract t i =>
  obtain⟨q,g,rfl⟩:=R9 h;show (Oy t _).run E O=_;rw[Sa p g];rfl
 |call c=>exact zqz p h O
 |_=>cases h
end ok
end
section
noncomputable section
open Go.RowKit (Below)
def tk(g:Program)(f:Nat):Bool:=match g.funcs[f]? with
 |some fn=>match fn.params.toList with
  |[]=>match fn.resultTypes.toList with
   |[t]=>match g.underlying t with
    |some .bool=>true
    |_=>false
   |_=>false
  |_::_=>false
 |none=>false
def zax(z:Program)(f:Nat):Prop :=
 ∀(w:World) p,∃g j,Below w.heap.size w g∧Steps z (lone (Frame.enter z f #[] .normal) p w) (lone j p g)∧j.fn=f∧j.leaving z g (.returned (.bool true))
def zqy(hm:p.follows .mixedOrders=true){m f:Nat}(h:rg p noO m f=true):zax p f:=by
 intro w g;unfold rg at h;split at h
 ·rename_i G j;obtain⟨H,z,I,A,K,B,C,D,E,F⟩:=zce hm (zv5 p) m w _ _ w (.fn f) [] [] _ _ (Rel.start w) .nil j g;cases C;exact⟨z,A,B.low,D,E,F⟩
 ·cases h
def Rel.below{w0:World}{gA:CM}{H:Heap}{w w':World}(h:Rel w0 gA H w)(hb:Below w.heap.size w w'):Rel w0 gA H w':=by
 have gg:w0.heap.size≤w.heap.size:=h.low.size;exact⟨h.nx,h.low.trans (hb.mono gg),h.fresh,λo v L C=>Ik (h.lt o v L C) hb.size,h.excl,
  λo ob ho hg=>(h.obj o ob ho hg).frame (CM.le_refl gA) (λ_ _ C=>C) (λv L C=>hb.block _ (h.lt o v L C)),h.top⟩
def Qc(g:Program)(f:Nat):Nat:=match tk g f with
 |true=>0
 |false=>match g.funcs[f]? with
  | some fn => match fn.origin == "slices.Insert" with
   |true=>1
   | false => match fn.origin == "slices.Delete" with
    |true=>2
    |false=>0
  |none=>0
def R7(g:Program)(f:Nat):Nat:=match g.funcs[f]? with
 |some fn=>match fn.targs[1]? with
  |some t=>match N7 g t with
   |some j=>j
   |none=>0
  |none=>0
 |none=>0
def rowTo(j:Heap)(o v len esz:Nat)(l:List AV):RV:=match j.get o with
 |some (.cells _ _ g false)=>match Nat.beq v g with
  |true=>.ok (.sl o (Nat.add g 1) 0 len esz none) (j.put o (.cells (Ou l 0 .e) l.length (Nat.add g 1) false))
  |false=>.no
 |_=>.no
def Um(j:Nat)(D:Heap):List AV→RV
 |[.nilSl,.int .i64 (.ofNat i),.sl p z A B g _]=>match Nat.beq i 0&&(Nat.beq B 1&&(Nat.beq g j&&Nat.ble 1 j)) with
  |true=>match Pa D p z A j with
   |some x=>.ok (.sl D.next 0 0 1 j none) (D.push (.cells (Ou x 0 .e) x.length 0 false))
   |none=>.no
  |false=>.no
 |[.sl o v E len C _,.int .i64 (.ofNat i),.sl p z A B g _]=>match !(Nat.beq o p)&&(Nat.beq E 0&&(Nat.beq B 1&&(Nat.beq g j&&(Nat.beq C j&&(Nat.ble i len&&(Nat.ble 1 j&&Nat.ble len M1)))))) with
  |true=>match Pa D o v 0 (Nat.mul len j) with
   |some l=>match Pa D p z A j with
    |some x=>rowTo D o v (Nat.add len 1) j (l.take (Nat.mul i j)++x++l.drop (Nat.mul i j))
    |none=>.no
   |none=>.no
  |false=>.no
 |_=>.no
def Z5(p:Nat)(z:Heap):List AV→RV
 |[.sl o v A len g _,.int .i64 (.ofNat i),.int .i64 (.ofNat j)]=>match Nat.beq A 0&&(Nat.beq j (Nat.add i 1)&&(Nat.beq g p&&(Nat.ble j len&&(Nat.ble 1 p&&Nat.ble len M1)))) with
  |true=>match Pa z o v 0 (Nat.mul len p) with
   |some l=>rowTo z o v (Nat.sub len 1) p (l.take (Nat.mul i p)++l.drop (Nat.mul j p))
   |none=>.no
  |false=>.no
 |_=>.no
def Sq(k j:Nat)(p:Heap)(g:List AV):RV:=match k with
 |1=>Um j p g
 |2=>Z5 j p g
 |_=>.no
def lf(A:Program)(f:Nat):Prop:=∀j B C w g p v z,Rel j B C w→VRs B g p→Sq (Qc A f) (R7 A f) C g=.ok v z→jy A j B w (.fn f) p v z
def zsq(g:Program)(f:Nat):Bool:=tk g f || !(Nat.beq (Qc g f) 0)
def zvd{f:Nat}(h:tk p f=true):Qc p f=0:=by unfold Qc;rw[h]
open Classical in
def OL(P:Program):Pw:=λt args H=>match t with
 |.fn f=>if Qc P f=0 then (match args with
   |[]=>if tk P f=true∧zax P f then .ok (.bool true) H else .no
   |_=>.no) else if lf P f then Sq (Qc P f) (R7 P f) H args else .no
 |_=>.no
def v8{f:Nat}(h:zsq p f=false)(g:List AV)(z:Heap):OL p (.fn f) g z=.no:=by
 unfold zsq at h;simp only[Bool.or_eq_false_iff,Bool.not_eq_false']at h;have j:=Hn h.2;unfold OL;dsimp only;rw[Hs j];split
 ·rw[Hq (by rw[h.1];simp)]
 ·rfl
def n8{f:Nat}(h:tk p f=true)(g:zax p f)(j:Heap):OL p (.fn f) [] j=.ok (.bool true) j:=by
 unfold OL;dsimp only;rw[Hs (zvd h)];exact Hs ⟨h,g⟩
def rf{f:Nat}(h:Qc p f≠0)(j:lf p f)(z:Heap)(g:List AV):OL p (.fn f) g z=Sq (Qc p f) (R7 p f) z g:=by
 unfold OL;dsimp only;rw[Hq h,Hs j]
def Y3(K:Program):Xa K (OL K):=by
 intro M L P w t j N v O p z g;unfold OL at g;split at g
 ·rename_i f;split at g
  ·split at g
   ·split at g
    ·rename_i A;cases g;cases z;intro B;obtain⟨C,D,E,F,G,H⟩:=A.2 w B;exact⟨L,C,.bool true,D,CM.le_refl L,p.below E,.bool true,F,G,H⟩
    ·cases g
   ·cases g
  ·split at g
   ·rename_i I;exact I _ _ _ _ _ _ _ _ p z g
   ·cases g
 ·cases g
end
end
noncomputable section
inductive LV where
 |any
 |bool (b:Bool)
 |u (x:UInt64)
 |b (x:UInt8)
 |i (n:Int)
 |int (k:IntKind) (n:Int)
 |str (l:List UInt8)
 |nilPtr
 |ptr (p i:Nat)
 |dptr (p k i:Nat)
 |cptr (l:List LV) (i:Nat)
 |nilSl
 |dy (p k:Nat)
 |vw (p k lo len:Nat)
 |vf (p k len:Nat)
 |lst (l:List LV) (len esz:Nat)
 |nilMap
 |map (p:Nat)
 |nilFn
 |fn (f:Fn) (first cap:List LV)
 |nilIf
 |iface (t:TypeId) (v:LV)
 |agg (l:List LV)
 |tup (l:List LV)
 deriving Inhabited
abbrev Ml:=List (Nat×LV)
def lk0:Ml→Nat→LV
 |[],_=>.any
 |(d,v)::l,t=>if t=d then v else lk0 l t
def zv6(f:v9):∃g:v9,g=f:=⟨f,rfl⟩
def O1(f:v9):v9:=Classical.choose (zv6 f)
def Sj(f:v9):O1 f=f:=Classical.choose_spec (zv6 f)
def lk:Ml→Nat→LV:=O1 lk0
def Zh(t:Nat):lk [] t=.any:=by unfold lk;rw[Sj];rfl
def yg(d:Nat)(v:LV)(l:Ml)(t:Nat):lk ((d,v)::l) t=if t=d then v else lk l t:=by unfold lk;rw[Sj];rfl
inductive LObj where
 |dead (st:Nat)
 |cells (l:List LV) (st:Nat)
 |dyn (l:List LV) (len esz ver st:Nat)
 |map (es:List (LV×LV×Nat)) (clock st:Nat)
 |iter (l:List UInt8) (pos:Nat)
 |loop (s:LoopState) (pend:Option Code) (f n:Nat) (ρ:Ml) (ps:Array Tmp) (a b:Code) (d:Nat)
 |defd (op:Bool)
abbrev Mh:=List LObj
def LObj.live:LObj→Bool
 |.dead _=>false
 |_=>true
def LObj.stp:LObj→Bool
 |.cells _ _=>true
 |.dyn _ _ _ _ _=>true
 |.map _ _ _=>true
 |_=>false
def LObj.st:LObj→Nat
 |.cells _ st=>st
 |.dyn _ _ _ _ st=>st
 |.map _ _ st=>st
 |.dead st=>st
 |_=>0
def LV.cells:LV→Option (List LV)
 |.any=>none
 |.agg cs=>some cs
 |.tup _=>none
 |v=>some [v]
mutual
def toA:LV→AV
 |.bool b=>.bool b
 |.u x=>.int .u64 (Int.ofNat x.toNat)
 |.b x=>.int .u8 (Int.ofNat x.toNat)
 |.i n=>.int .i64 n
 |.int k n=>.int k n
 |.str l=>.str l.length (N8 l)
 |.nilPtr=>.nilPtr
 |.nilSl=>.nilSl
 |.nilMap=>.nilMap
 |.nilFn=>.nilFn
 |.fn f _ _=>.fn f [] []
 |.nilIf=>.nilIf
 |.agg l=>.agg (toAs l)
 |.tup l=>.tup (toAs l)
 |_=>.tup []
def toAs:List LV→List AV
 |[]=>[]
 |v::l=>toA v::toAs l
end
def LV.scal:LV→Bool
 |.bool _ |.u _ |.b _ |.i _ |.int _ _ |.str _ |.nilPtr |.nilSl |.nilMap |.nilFn |.nilIf=>true
 |_=>false
def LV.cst:LV→Bool
 |.fn (.func _) [] []=>true
 |.agg l=>l.all LV.scal
 |.tup []=>true
 |v=>v.scal
structure Cx where
 hd:List (Nat×AV)
 Fz:Nat→Prop
 H:Heap
def ce:AV→Bool
 |.nilSl=>true
 |.emp=>true
 |.sl _ _ _ _ _ _=>true
 |_=>false
def Vn(p:Nat)(h a:AV):Prop:=p=0→match a with
 |.sl _ _ _ _ _ g=>match h with
  |.sl _ _ _ len _ j=>g=j∨∃r,g=some r∧r≤len
  |_=>True
 |_=>True
mutual
inductive AR (c:Cx):LV→AV→Prop where
 |any (a:AV):AR c .any a
 |bool (b:Bool):AR c (.bool b) (.bool b)
 |u (x:UInt64):AR c (.u x) (.int .u64 (Int.ofNat x.toNat))
 |b (x:UInt8):AR c (.b x) (.int .u8 (Int.ofNat x.toNat))
 |i (n:Int):AR c (.i n) (.int .i64 n)
 |int (k:IntKind) (n:Int):AR c (.int k n) (.int k n)
 |str (l:List UInt8):AR c (.str l) (.str l.length (N8 l))
 |nilPtr:AR c .nilPtr .nilPtr
 |ptr {p i o:Nat} (h:c.hd[p]?=some (0,.ptr o 0 0)):AR c (.ptr p i) (.ptr o 0 i)
 |dptr {p k i k' o v j:Nat} {h:AV} (hp:c.hd[p]?=some (k',h)) (hk:k≤k') (ha:k=k'→j=i∧∃len esz room,h=.sl o v 0 len esz room):AR c (.dptr p k i) (.ptr o v j)
 |cptr {l:List LV} {i o v j:Nat} {l':List AV} (hf:c.Fz o) (hr:Pa c.H o v j l.length=some l') (hl:ARs c l l'):AR c (.cptr l i) (.ptr o v (j+i))
 |nilSl:AR c .nilSl .nilSl
 |dy {p k k':Nat} {h a:AV} (hp:c.hd[p]?=some (k',h)) (hk:k≤k') (ha:k=k'→a=h) (hs:ce a=true):AR c (.dy p k) a
 |vw {p k lo len k':Nat} {h a:AV} (hp:c.hd[p]?=some (k',h)) (hk:k≤k') (ha:k=k'→(len=0∧(a=.nilSl∨(a=.emp∧lo≠0)))∨∃o v len' esz room room',h=.sl o v 0 len' esz room∧a=.sl o v (lo*esz) len esz room'∧∀r,room'=some r→len≤r) (hs:ce a=true) (hz:k=k'→Vn lo h a):AR c (.vw p k lo len) a
 |vf {p k len k':Nat} {h a:AV} (hp:c.hd[p]?=some (k',h)) (hk:k≤k') (ha:k=k'→∃o v len' esz room,h=.sl o v 0 len' esz room∧a=.sl o v 0 len esz (some len)) (hs:ce a=true):AR c (.vf p k len) a
 |lst {l:List LV} {len esz o v i:Nat} {room:Option Nat} {l':List AV} (hf:c.Fz o) (hrm:∀r,room=some r→len≤r) (hlen:l.length=len*esz) (hr:Pa c.H o v i (len*esz)=some l') (hl:ARs c l l'):AR c (.lst l len esz) (.sl o v i len esz room)
 |lstNil {esz:Nat}:AR c (.lst [] 0 esz) .nilSl
 |lstEmp {esz:Nat}:AR c (.lst [] 0 esz) .emp
 |nilMap:AR c .nilMap .nilMap
 |map {p o:Nat} (h:c.hd[p]?=some (0,.map o)):AR c (.map p) (.map o)
 |nilFn:AR c .nilFn .nilFn
 |fn {f:Nat} {l r:List LV} {l' r':List AV} (hl:ARs c l l') (hr:ARs c r r'):AR c (.fn (.func f) l r) (.fn (.func f) l' r')
 |yield {p o:Nat} (h:c.hd[p]?=some (0,.ptr o 0 0)):AR c (.fn (.yield p) [] []) (.fn (.yield o) [] [])
 |nilIf:AR c .nilIf .nilIf
 |iface {t:TypeId} {v:LV} {a:AV} (h:AR c v a):AR c (.iface t v) (.iface t a)
 |agg {l:List LV} {l':List AV} (h:ARs c l l'):AR c (.agg l) (.agg l')
 |tup {l:List LV} {l':List AV} (h:ARs c l l'):AR c (.tup l) (.tup l')
inductive ARs (c:Cx):List LV→List AV→Prop where
 |nil:ARs c [] []
 |cons {v:LV} {a:AV} {l:List LV} {r:List AV} (h:AR c v a) (hs:ARs c l r):ARs c (v::l) (a::r)
end
inductive MRs (c:Cx):List (LV×LV×Nat)→List (AV×AV×Nat)→Prop where
 |nil:MRs c [] []
 |cons {k v:LV} {a b:AV} {n:Nat} {l:List (LV×LV×Nat)} {r:List (AV×AV×Nat)} (hk:AR c k a) (hv:AR c v b) (h:MRs c l r):MRs c ((k,v,n)::l) ((a,b,n)::r)
def Nl(c:Cx)(g:Ml)(j:Tr AV):Prop:=∀t,AR c (lk g t) ((Mm (Mx t) j).getD Qv)
def kr(c:Cx)(k:Nat)(h:AV):LObj→Prop
 |.dead _=>True
 |.cells l _=>k=0∧∃o t z,h=.ptr o 0 0∧c.H.get o=some (.cells t l.length 0 false)∧Rm t 0 l.length=some z∧ARs c l z
 |.dyn l len j C _=>k=C∧l.length=len*j∧((h=.nilSl∧len=0)∨∃o v p t g z,h=.sl o v 0 len j p∧c.H.get o=some (.cells t g v false)∧len*j≤g ∧
   Rm t 0 (len*j)=some z∧ARs c l z∧(∀r,p=some r→g=r*j∧len≤r)∧(p=none→g=len*j))
 |.map F G _=>k=0∧∃o A,h=.map o∧c.H.get o=some (.map A G)∧MRs c F A
 |.iter l D=>k=0∧∃o,h=.ptr o 0 0∧c.H.get o=some (.iter l.length (N8 l) D)
 |.loop s B f n K H a b d=>k=0∧∃o E I,h=.ptr o 0 0∧c.hd[d]?=some (0,.ptr E 0 0)∧c.H.get o=some (.loop s B f n I H a b E)∧Nl c K I
 |.defd op=>k=0∧∃o,h=.ptr o 0 0∧c.H.get o=some (.defd op)
def Ow(c:Cx)(p:Mh)(o:Nat):Prop:=∃(j:Nat) (g:LObj) (k:Nat) (h:AV),p[j]?=some g∧g.live=true∧c.hd[j]?=some (k,h)∧Nf h=some o
structure HSim (c:Cx) (G:Mh):Prop where
 len:c.hd.length=G.length
 fz:∀o,c.Fz o→o<c.H.next
 lt:∀o,Ow c G o→o<c.H.next
 sep:∀o,Ow c G o→¬c.Fz o
 obj:∀(p:Nat) (ob:LObj) (k:Nat) (h:AV),G[p]?=some ob→c.hd[p]?=some (k,h)→kr c k h ob
 excl:∀(p q:Nat) (ob ob':LObj) (k:Nat) (h:AV) (k':Nat) (h':AV) (o:Nat),G[p]?=some ob→G[q]?=some ob'→ob.live=true→ob'.live=true→c.hd[p]?=some (k,h)→c.hd[q]?=some (k',h')→Nf h=some o→Nf h'=some o→p=q
def V7:AV→Bool
 |.ptr _ _ _=>true
 |.map _=>true
 |_=>false
structure CxLe (c c':Cx):Prop where
 hd:∀(p k:Nat) (h:AV),c.hd[p]?=some (k,h)→∃(k':Nat) (h':AV),c'.hd[p]?=some (k',h')∧k≤k'∧(k=k'→h=h')∧(V7 h=true→k=k')
 fz:∀o,c.Fz o→c'.Fz o∧c'.H.get o=c.H.get o
structure Step (c:Cx) (G:Mh) (c':Cx) (G':Mh):Prop where
 le:CxLe c c'
 nx:c.H.next≤c'.H.next
 frame:∀o,o<c.H.next→¬Ow c G o→c'.H.get o=c.H.get o
 new:∀o,Ow c' G' o→Ow c G o∨c.H.next≤o
 fznew:∀o,c'.Fz o→c.Fz o∨Ow c G o∨c.H.next≤o
 mono:∀(p:Nat) (ob ob':LObj),G[p]?=some ob→G'[p]?=some ob'→ob.st≤ob'.st
 st:∀(p:Nat) (ob ob':LObj) (k:Nat) (h:AV) (o:Nat),G[p]?=some ob→G'[p]?=some ob'→c.hd[p]?=some (k,h)→Nf h=some o→ob.stp=true→ob.st=ob'.st→ob'=ob∧c'.H.get o=c.H.get o∧c'.hd[p]?=c.hd[p]?
inductive Lx where
 |t (i:Nat)
 |c (v:LV)
def Lx.ev(ρ:Ml):Lx→LV
 |.t i=>lk ρ i
 |.c v=>v
def Lx.r:Lx→Ox
 |.t i=>.t i
 |.c v=>.c (toA v)
def Lx.ok:Lx→Bool
 |.t _=>true
 |.c v=>v.cst
inductive LOp where
 |move (x:Lx)
 |pick (c a b:Lx)
 |alloc (l:List LV)
 |box (x:Lx)
 |build (cs:List LV) (ps:List (Nat×Nat×Lx))
 |buildSl (size len:Nat) (cs:List LV) (ps:List (Nat×Nat×Lx))
 |load1 (x:Lx)
 |loadN (n:Nat) (x:Lx)
 |store (n:Nat) (x y:Lx)
 |nilChk (x:Lx)
 |bin (op:BinOp) (g:Bool) (t:TypeId) (x y:Lx)
 |un (op:UnOp) (x:Lx)
 |cvInt (k:IntKind) (x:Lx)
 |cvStr (x:Lx)
 |cvSame (x:Lx)
 |cvBytes (x:Lx)
 |mkFunc (f:Nat) (first cap:List Lx)
 |mkSl (size:Nat) (z:List LV) (l c:Lx)
 |slStr (x:Lx) (lo hi:Option Lx)
 |slSl (size:Nat) (x:Lx) (lo hi:Option Lx)
 |slSl3 (size:Nat) (x:Lx) (lo hi:Option Lx) (mx:Lx)
 |fieldAddr (off:Nat) (x:Lx)
 |field (g:Bool) (n off:Nat) (x:Lx)
 |ixAddr (size:Nat) (x i:Lx)
 |ixStr (x i:Lx)
 |extract (i:Nat) (x:Lx)
 |lenStr (x:Lx)
 |lenSl (x:Lx)
 |maxi (mx:Bool) (x y:Lx)
 |max3 (mx:Bool) (x y z:Lx)
 |ixAddrArr (len size:Nat) (x i:Lx)
 |ixArr (g:Bool) (len size:Nat) (x i:Lx)
 |lenArr (n:Nat) (x:Lx)
 |appZ (size:Nat) (z:List LV) (s x:Lx)
 |appG (size:Nat) (s x:Lx)
 |copy (size:Nat) (d x:Lx)
 |clear (size:Nat) (z:List LV) (x:Lx)
 |mkMap0
 |mkMap1 (x:Lx)
 |lookup (d:TypeDesc) (z:LV) (ok:Bool) (x i:Lx)
 |mapUpd (d:TypeDesc) (m k v:Lx)
 |lenMap (x:Lx)
 |slArr (n size:Nat) (x:Lx) (lo hi:Option Lx)
 |callV (f:Lx) (args:List Lx)
def xo:List (Nat×Nat×Lx)→List (Nat×Nat×Ox)
 |[]=>[]
 |(a,b,x)::l=>(a,b,x.r)::xo l
def c9:List Lx→List Ox
 |[]=>[]
 |x::l=>x.r::c9 l
def LOp.r:LOp→ROp
 |.move x=>.move x.r
 |.pick c a b=>.pick c.r a.r b.r
 |.alloc l=>.alloc (toAs l)
 |.box x=>.box x.r
 |.build cs ps=>.build (toAs cs) (xo ps)
 |.buildSl s n cs ps=>.buildSl s n (toAs cs) (xo ps)
 |.load1 x=>.load1 x.r
 |.loadN n x=>.loadN n x.r
 |.store n x y=>.store n x.r y.r
 |.nilChk x=>.nilChk x.r
 |.bin op g t x y=>.bin op g t x.r y.r
 |.un op x=>.un op x.r
 |.cvInt k x=>.cvInt k x.r
 |.cvStr x=>.cvStr x.r
 |.cvSame x=>.cvSame x.r
 |.cvBytes x=>.cvBytes x.r
 |.mkFunc f a b=>.mkFunc (.func f) (c9 a) (c9 b)
 |.mkSl s z l c=>.mkSl s (toAs z) l.r c.r
 |.slStr x lo hi=>.slStr x.r (lo.map Lx.r) (hi.map Lx.r)
 |.slSl s x lo hi=>.slSl s x.r (lo.map Lx.r) (hi.map Lx.r) none
 |.slSl3 s x lo hi mx=>.slSl s x.r (lo.map Lx.r) (hi.map Lx.r) (some mx.r)
 |.fieldAddr o x=>.fieldAddr o x.r
 |.field g n o x=>.field g n o x.r
 |.ixAddr s x i=>.ixAddr s x.r i.r
 |.ixStr x i=>.ixStr x.r i.r
 |.extract i x=>.extract i x.r
 |.lenStr x=>.lenStr x.r
 |.lenSl x=>.lenSl x.r
 |.maxi m x y=>.maxi m [x.r,y.r]
 |.max3 m x y z=>.maxi m [x.r,y.r,z.r]
 |.ixAddrArr l s x i=>.ixAddrArr l s x.r i.r
 |.ixArr g l s x i=>.ixArr g l s x.r i.r
 |.lenArr n x=>.lenArr n x.r
 |.appZ s z a x=>.appZ s (toAs z) a.r x.r
 |.appG s a x=>.appG s a.r x.r
 |.copy s d x=>.copy s d.r x.r
 |.clear s z x=>.clear s (toAs z) x.r
 |.mkMap0=>.mkMap0
 |.mkMap1 x=>.mkMap1 x.r
 |.lookup d z ok x i=>.lookup d (toA z) ok x.r i.r
 |.mapUpd d m k v=>.mapUpd d m.r k.r v.r
 |.lenMap x=>.lenMap x.r
 |.slArr n s x lo hi=>.slArr n s x.r (lo.map Lx.r) (hi.map Lx.r) none
 |.callV f l=>.callV f.r (c9 l)
def Q9(n:Int):Prop:=-9223372036854775808≤n∧n<9223372036854775808
def S1:UInt64→UInt64→UInt64:=O1 λa b=>a+b
def Z2:UInt64→UInt64→UInt64:=O1 λa b=>a-b
def R3:UInt64→UInt64→UInt64:=O1 λa b=>a*b
def sq:UInt64→UInt64→UInt64:=O1 λa b=>a/b
def ml:UInt64→UInt64→UInt64:=O1 λa b=>a%b
def Q6:UInt64→UInt64→UInt64:=O1 λa b=>a &&& b
def orU:UInt64→UInt64→UInt64:=O1 λa b=>a ||| b
def mw:UInt64→UInt64→UInt64:=O1 λa b=>a ^^^ b
def db:UInt64→UInt64:=O1 λa => ~~~a
def Zn:UInt64→Nat→UInt64:=O1 λa s=>UInt64.ofNat (a.toNat*2^s)
def Pb:UInt64→Nat→UInt64:=O1 λa s=>UInt64.ofNat (a.toNat/2^s)
def rj:UInt8→UInt8→UInt8:=O1 λa b=>a+b
def rp:UInt8→UInt8→UInt8:=O1 λa b=>a-b
def m8:UInt8→UInt8→UInt8:=O1 λa b=>a &&& b
def orB:UInt8→UInt8→UInt8:=O1 λa b=>a ||| b
def iU:Int→UInt64:=O1 λa=>UInt64.ofInt a
def bU:UInt8→UInt64:=O1 λa=>UInt64.ofNat a.toNat
def uB:UInt64→UInt8:=O1 λa=>UInt8.ofNat a.toNat
def iB:Int→UInt8:=O1 λa=>UInt8.ofInt a
def zki(a b:UInt64):S1 a b=a+b:=by unfold S1;rw[Sj]
def zp2(a b:UInt64):Z2 a b=a-b:=by unfold Z2;rw[Sj]
def zje(a b:UInt64):R3 a b=a*b:=by unfold R3;rw[Sj]
def co(a b:UInt64):sq a b=a/b:=by unfold sq;rw[Sj]
def cp(a b:UInt64):ml a b=a%b:=by unfold ml;rw[Sj]
def zvl(a b:UInt64):Q6 a b=a &&& b:=by unfold Q6;rw[Sj]
def pw(a b:UInt64):orU a b=a ||| b:=by unfold orU;rw[Sj]
def gc(a b:UInt64):mw a b=a ^^^ b:=by unfold mw;rw[Sj]
def zsy(a:UInt64):db a = ~~~a:=by unfold db;rw[Sj]
def fw(a:UInt64)(s:Nat):Zn a s=UInt64.ofNat (a.toNat*2^s):=by unfold Zn;rw[Sj]
def zoo(a:UInt64)(s:Nat):Pb a s=UInt64.ofNat (a.toNat/2^s):=by unfold Pb;rw[Sj]
def ij(a b:UInt8):rj a b=a+b:=by unfold rj;rw[Sj]
def dt(a b:UInt8):rp a b=a-b:=by unfold rp;rw[Sj]
def gf(a b:UInt8):m8 a b=a &&& b:=by unfold m8;rw[Sj]
def ry(a b:UInt8):orB a b=a ||| b:=by unfold orB;rw[Sj]
def ky(a:Int):iU a=UInt64.ofInt a:=by unfold iU;rw[Sj]
def yn(a:UInt8):bU a=UInt64.ofNat a.toNat:=by unfold bU;rw[Sj]
def ye(a:UInt64):uB a=UInt8.ofNat a.toNat:=by unfold uB;rw[Sj]
def wv(a:Int):iB a=UInt8.ofInt a:=by unfold iB;rw[Sj]
def V9(op:BinOp)(a b:UInt64)(g:LV→Prop):Prop:=match op with
 |.add=>g (.u (S1 a b))
 |.sub=>g (.u (Z2 a b))
 |.mul=>g (.u (R3 a b))
 |.quo=>b≠0∧g (.u (sq a b))
 |.rem=>b≠0∧g (.u (ml a b))
 |.and=>g (.u (Q6 a b))
 |.or=>g (.u (orU a b))
 |.xor=>g (.u (mw a b))
 |.andNot=>g (.u (Q6 a (db b)))
 |.shl=>g (.u (Zn a b.toNat))
 |.shr=>g (.u (Pb a b.toNat))
 |.eql=>g (.bool (decide (a=b)))
 |.neq=>g (.bool (decide (a≠b)))
 |.lss=>g (.bool (decide (a<b)))
 |.leq=>g (.bool (decide (a≤b)))
 |.gtr=>g (.bool (decide (b<a)))
 |.geq=>g (.bool (decide (b≤a)))
def bbL(op:BinOp)(a b:UInt8)(g:LV→Prop):Prop:=match op with
 |.add=>g (.b (rj a b))
 |.sub=>g (.b (rp a b))
 |.and=>g (.b (m8 a b))
 |.or=>g (.b (orB a b))
 |.eql=>g (.bool (decide (a=b)))
 |.neq=>g (.bool (decide (a≠b)))
 |.lss=>g (.bool (decide (a<b)))
 |.leq=>g (.bool (decide (a≤b)))
 |.gtr=>g (.bool (decide (b<a)))
 |.geq=>g (.bool (decide (b≤a)))
 |_=>False
def Uj(op:BinOp)(a b:Int)(g:LV→Prop):Prop:=match op with
 |.add=>Q9 (a+b)∧g (.i (a+b))
 |.sub=>Q9 (a-b)∧g (.i (a-b))
 |.mul=>Q9 (a*b)∧g (.i (a*b))
 |.quo=>b≠0∧Q9 (a.tdiv b)∧g (.i (a.tdiv b))
 |.rem=>b≠0∧g (.i (a.tmod b))
 |.shl=>0≤a∧0≤b∧b≤64∧Q9 (a*2^b.toNat)∧g (.i (a*2^b.toNat))
 |.shr=>0≤a∧0≤b∧b≤64∧g (.i (a/2^b.toNat))
 |.and=>0≤a∧a<9223372036854775808∧0≤b∧b<9223372036854775808∧g (.i (a.toNat &&& b.toNat:Nat))
 |.or=>0≤a∧a<9223372036854775808∧0≤b∧b<9223372036854775808∧g (.i (a.toNat ||| b.toNat:Nat))
 |.eql=>g (.bool (decide (a=b)))
 |.neq=>g (.bool (decide (a≠b)))
 |.lss=>g (.bool (decide (a<b)))
 |.leq=>g (.bool (decide (a≤b)))
 |.gtr=>g (.bool (decide (b<a)))
 |.geq=>g (.bool (decide (b≤a)))
 |_=>False
def kkL(op:BinOp)(a b:Int)(g:LV→Prop):Prop:=match op with
 |.eql=>g (.bool (decide (a=b)))
 |.neq=>g (.bool (decide (a≠b)))
 |.lss=>g (.bool (decide (a<b)))
 |.leq=>g (.bool (decide (a≤b)))
 |.gtr=>g (.bool (decide (b<a)))
 |.geq=>g (.bool (decide (b≤a)))
 |_=>False
def ssL(op:BinOp)(a b:List UInt8)(g:LV→Prop):Prop:=match op with
 |.add=>a.length+b.length≤1000000000∧g (.str (a++b))
 |.eql=>g (.bool (decide (a=b)))
 |.neq=>g (.bool (decide (a≠b)))
 |_=>False
def Vz(g:Program)(op:BinOp)(j:Bool)(t:TypeId)(a b:AV)(r:Bool)(p:LV→Prop):Prop:=match op with
 |.eql=>Qn g j t a b=some r∧p (.bool r)
 |.neq=>Qn g j t a b=some r∧p (.bool (!r))
 |_=>False
def fa(g:Program)(op:BinOp)(j:Bool)(t:TypeId)(l r:List LV)(p:LV→Prop):Prop:=match op with
 |.eql=>∃b,l.all LV.scal=true∧r.all LV.scal=true∧Qn g j t (.agg (toAs l)) (.agg (toAs r))=some b∧p (.bool b)
 |.neq=>∃b,l.all LV.scal=true∧r.all LV.scal=true∧Qn g j t (.agg (toAs l)) (.agg (toAs r))=some b∧p (.bool (!b))
 |_=>False
def lstN(op:BinOp)(len:Nat)(g:LV→Prop):Prop:=match op with
 |.eql=>g (.bool false)∧(len=0→g (.bool true))
 |.neq=>g (.bool true)∧(len=0→g (.bool false))
 |_=>False
def Ra(j:Program)(op:BinOp)(p:Bool)(t:TypeId)(x y:LV)(g:LV→Prop):Prop:=match x,y with
 |.u a,.u b=>V9 op a b g
 |.i a,.i b=>Uj op a b g
 |.b a,.b b=>bbL op a b g
 |.bool a,.bool b=>match op with
  |.eql=>Qn j p t (.bool a) (.bool b)=some (a==b)∧g (.bool (a==b))
  |.neq=>Qn j p t (.bool a) (.bool b)=some (a==b)∧g (.bool (!(a==b)))
  |_=>False
 |.u a,.i s=>match op with
  |.shl=>0≤s∧g (.u (Zn a s.toNat))
  |.shr=>0≤s∧g (.u (Pb a s.toNat))
  |_=>False
 |.i a,.u s=>match op with
  |.shl=>0≤a∧s.toNat≤64∧Q9 (a*2^s.toNat)∧g (.i (a*2^s.toNat))
  |.shr=>0≤a∧s.toNat≤64∧g (.i (a/2^s.toNat))
  |_=>False
 |.int k a,.int z b=>k=z∧kkL op a b g
 |.str a,.str b=>ssL op a b g
 |.nilPtr,.nilPtr=>Vz j op p t .nilPtr .nilPtr true g
 |.ptr _ _,.nilPtr=>Vz j op p t (.ptr 0 0 0) .nilPtr false g
 |.nilSl,.nilSl=>Vz j op p t .nilSl .nilSl true g
 |.lst _ len _,.nilSl=>Qn j p t .nilSl .nilSl=some true∧lstN op len g
 |.agg l,.agg r=>fa j op p t l r g
 |_,_=>False
def og(op:UnOp)(x:LV)(g:LV→Prop):Prop:=match op,x with
 |.not,.bool b=>g (.bool (!b))
 |.neg,.u a=>g (.u (Z2 0 a))
 |.neg,.i a=>Q9 (-a)∧g (.i (-a))
 |.xor,.u a=>g (.u (db a))
 |_,_=>False
def w32(n:Int):Int:=(n+2147483648)%4294967296-2147483648
def ff(k:IntKind)(x:LV)(g:LV→Prop):Prop:=match k,x with
 |.u64,.u a=>g (.u a)
 |.u64,.i a=>g (.u (iU a))
 |.u64,.b a=>g (.u (bU a))
 |.i64,.u a=>a.toNat<9223372036854775808∧g (.i a.toNat)
 |.i64,.i a=>Q9 a∧g (.i a)
 |.i64,.b a=>g (.i a.toNat)
 |.u8,.u a=>g (.b (uB a))
 |.u8,.i a=>g (.b (iB a))
 |.u8,.b a=>g (.b a)
 |.u8,.int _ a=>g (.b (iB a))
 |.i32,.i a=>g (.int .i32 (w32 a))
 |.i64,.int _ a=>Q9 a∧g (.i a)
 |_,_=>False
def R0(t:Bool)(g j:Prop):Prop:=(t=true→g)∧(t=false→j)
def uh(v:LV)(g j:Prop):Prop:=match v with
 |.bool t=>R0 t g j
 |_=>False
def Ui(z:Mh)(x:LV)(n:Nat)(j:List LV→Prop):Prop:=match x with
 |.ptr p i=>match z[p]? with
  |some (.cells l _)=>i+n≤l.length∧j ((l.drop i).take n)
  |_=>False
 |.dptr p k i=>match z[p]? with
  |some (.dyn l _ _ g _)=>k=g∧i+n≤l.length∧j ((l.drop i).take n)
  |_=>False
 |.cptr l i=>i+n≤l.length∧j ((l.drop i).take n)
 |_=>False
def Om(l:List LV)(i:Nat)(g:LV→Prop):Prop:=∃v,l[i]?=some v∧g v
def Vc(z:Mh)(x:LV)(j:LV→Prop):Prop:=match x with
 |.ptr p i=>match z[p]? with
  |some (.cells l _)=>Om l i j
  |_=>False
 |.dptr p k i=>match z[p]? with
  |some (.dyn l _ _ g _)=>k=g∧Om l i j
  |_=>False
 |.cptr l i=>Om l i j
 |_=>False
def M5(l:List LV)(i:Nat)(r:List LV):List LV:=l.take i++r++l.drop (i+r.length)
def Tv(z:Mh)(x:LV)(r:List LV)(A:Mh→Prop):Prop:=match x with
 |.ptr p i=>match z[p]? with
  |some (.cells l st)=>i+r.length≤l.length∧A (z.set p (.cells (M5 l i r) (st+1)))
  |_=>False
 |.dptr p k i=>match z[p]? with
  |some (.dyn l len j g st)=>k=g∧i+r.length≤l.length∧A (z.set p (.dyn (M5 l i r) len j g (st+1)))
  |_=>False
 |_=>False
def M7(g:List LV):Nat→List LV
 |0=>[]
 |n+1=>g++M7 g n
def Re(C:Mh)(j:Nat)(x:LV)(z:Nat→List LV→Prop):Prop:=match x with
 |.nilSl=>z 0 []
 |.dy B k=>match C[B]? with
  |some (.dyn l len g p _)=>k=p∧g=j∧z len l
  |_=>False
 |.vw B k A len=>match C[B]? with
  |some (.dyn l _ g p _)=>k=p∧g=j∧A*g+len*g≤l.length∧z len ((l.drop (A*g)).take (len*g))
  |_=>False
 |.lst l len g=>g=j∧z len l
 |.str l=>j=1∧z l.length (l.map LV.b)
 |_=>False
def re(z:Mh)(x:LV)(p:List LV→Prop):Prop:=match x with
 |.nilSl=>p []
 |.dy A k=>match z[A]? with
  |some (.dyn l _ g j _)=>k=j∧g=1∧p l
  |_=>False
 |.lst l len g=>g=1∧len≠0∧p l
 |_=>False
def lenL(z:Mh)(x:LV)(j:Nat→Prop):Prop:=match x with
 |.nilSl=>j 0
 |.dy p k=>match z[p]? with
  |some (.dyn _ len _ g _)=>k=g∧j len
  |_=>False
 |.vw p k _ len=>match z[p]? with
  |some (.dyn _ _ _ g _)=>k=g∧j len
  |_=>False
 |.lst _ len _=>j len
 |_=>False
def O9(B:Mh)(j:Nat)(s:LV)(n:Nat)(z:List LV)(D:LV→Mh→Prop):Prop:=match s with
 |.nilSl=>D (.dy B.length 0) (B++[.dyn z n j 0 0])
 |.dy C k=>match B[C]? with
  |some (.dyn l len g p st)=>k=p∧(g=j∧0<g)∧len≤1000000000∧D (.dy C (p+1)) (B.set C (.dyn (l++z) (len+n) g (p+1) (st+1)))
  |_=>False
 |.vw C k E len=>match B[C]? with
  |some (.dyn l A g p st)=>k=p∧(g=j∧E=0∧0<n)∧len≤1000000000∧if (len+n)*g≤l.length then D (.vw C k 0 (len+n)) (B.set C (.dyn (M5 l (len*g) z) A g p (st+1)))∧D (.dy B.length 0) (B++[.dyn (l.take (len*g)++z) (len+n) j 0 0]) else len=A∧0<g∧D (.dy C (p+1)) (B.set C (.dyn (l++z) (len+n) g (p+1) (st+1)))∧D (.dy B.length 0) (B++[.dyn (l++z) (len+n) j 0 0])
  |_=>False
 |.vf C k len=>match B[C]? with
  |some (.dyn l _ g p _)=>k=p∧(g=j∧0<n)∧len≤1000000000∧len*g≤l.length∧D (.dy B.length 0) (B++[.dyn (l.take (len*g)++z) (len+n) j 0 0])
  |_=>False
 |_=>False
def cz(A:Ml)(p:List LV):List (Nat×Nat×Lx)→Option (List LV)
 |[]=>some p
 |(j,g,x)::z=>match (x.ev A).cells with
  |none=>none
  |some l=>if l.length=g∧j+g≤p.length then cz A (M5 p j l) z else none
def Un(d:TypeDesc)(a b:LV):Option Bool:=match d,a,b with
 |.int _,.i a,.i b=>some (decide (a=b))
 |.int _,.u a,.u b=>some (decide (a=b))
 |.string,.str a,.str b=>some (decide (a=b))
 |_,_,_=>none
def fi(d:TypeDesc)(k:LV)(g:Option LV→Prop):List (LV×LV×Nat)→Prop
 |[]=>g none
 |(j,v,_)::l=>match Un d k j with
  |some b=>R0 b (g (some v)) (fi d k g l)
  |none=>False
def T2(d:TypeDesc)(k v:LV)(g:Nat)(K:List (LV×LV×Nat)→Bool→Prop):List (LV×LV×Nat)→Prop
 |[]=>K [(k,v,g)] true
 |(p,z,n)::l=>match Un d k p with
  |some b=>R0 b (K ((k,v,n)::l) false) (T2 d k v g (λr j=>K ((p,z,n)::r) j) l)
  |none=>False
def Uw(p:Mh)(x:LV)(j:List (LV×LV×Nat)→Prop):Prop:=match x with
 |.nilMap=>j []
 |.map z=>match p[z]? with
  |some (.map g _ _)=>j g
  |_=>False
 |_=>False
def yr(g:LV)(ok:Bool)(j:LV→Prop):Option LV→Prop
 |some v=>j (match ok with|true=>.tup [v,.bool true]|false=>v)
 |none=>j (match ok with|true=>.tup [g,.bool false]|false=>g)
def mf(z:Mh)(A j st:Nat)(B:Mh→Prop):List (LV×LV×Nat)→Bool→Prop:=λp g=>B (z.set A (.map p (match g with|true=>j+1|false=>j) (st+1)))
def kz(p:Mh)(d:TypeDesc)(m k v:LV)(A:Mh→Prop):Prop:=match m with
 |.map z=>match p[z]? with
  |some (.map j g st)=>T2 d k v g (mf p z g st A) j
  |_=>False
 |_=>False
def Oe(j:Ml)(d:Nat)(x:Option Lx)(g:Nat→Prop):Prop:=match x with
 |none=>g d
 |some x=>match x.ev j with
  |.i n=>0≤n∧g n.toNat
  |.u n=>g n.toNat
  |_=>False
def lx(g k a b m:Nat):LV:=match decide (a=0∧b=m∧0<b) with
 |true=>.vf g k b
 |false=>.vw g k a (b-a)
def yy(C:Mh)(g:Nat)(x:LV)(n:Int)(A:LV→Prop):Prop:=match x with
 |.dy z k=>match C[z]? with
  |some (.dyn _ len j p _)=>k=p∧j=g∧0≤n∧n<len∧A (.dptr z k (n.toNat*g))
  |_=>False
 |.vw z k B len=>match C[z]? with
  |some (.dyn _ _ j p _)=>k=p∧j=g∧0≤n∧n<len∧A (.dptr z k ((B+n.toNat)*g))
  |_=>False
 |.lst l len j=>j=g∧0≤n∧n<len∧A (.cptr l (n.toNat*g))
 |_=>False
inductive LTgt where
 |fn (f:Nat)
 |yield (p:Nat)
def q9(c:Cx):LTgt→Tgt→Prop
 |.fn f,.fn g=>f=g
 |.yield j,.yield o=>c.hd[j]?=some (0,.ptr o 0 0)
 |_,_=>False
def ef(g:Program):LTgt→Prop
 |.fn f=>gt g f=true∧s9 g f=false
 |.yield _=>True
def Qq(D:Program)(t:LTgt)(j:List LV)(E:Mh)(K:LV→Mh→Prop):Prop :=
 ef D t∧∀c A g,HSim c E→q9 c t A→ARs c j g→∃m B C,Qt D (OL D) m A g c.H=.ok B C∧∃p v z,p.H=C∧HSim p z∧Step c E p z∧AR p v B∧K v z
def M8(S:Program)(z:Ml)(p:Mh)(o:LOp)(A:LV→Mh→Prop):Prop:=match o with
 |.move x=>A (x.ev z) p
 |.pick c a b=>match c.ev z with
  |.bool t=>match a.ev z,b.ev z with
   |.bool x,.bool y=>A (.bool (match t with|true=>x|false=>y)) p
   |x,y=>R0 t (A x p) (A y p)
  |_=>False
 |.alloc l=>A (.ptr p.length 0) (p++[.cells l 0])
 |.box x=>match (x.ev z).cells with
  |some l=>A (.ptr p.length 0) (p++[.cells l 0])
  |none=>False
 |.build L M=>match cz z L M with
  |some l=>A (.agg l) p
  |none=>False
 |.buildSl g len L M=>match cz z L M with
  |some l=>l.length=len*g∧A (.dy p.length 0) (p++[.dyn l len g 0 0])
  |none=>False
 |.load1 x=>Vc p (x.ev z) λv=>A v p
 |.loadN n x=>Ui p (x.ev z) n λl=>A (.agg l) p
 |.store n x y=>match (y.ev z).cells with
  |some l=>l.length=n∧Tv p (x.ev z) l λN=>A (.tup []) N
  |none=>False
 |.nilChk x=>match x.ev z with
  |.ptr D i=>A (.ptr D i) p
  |.dptr D k i=>A (.dptr D k i) p
  |.cptr l i=>A (.cptr l i) p
  |.fn (.func f) a b=>A (.fn (.func f) a b) p
  |_=>False
 |.bin op O t x y=>Ra S op O t (x.ev z) (y.ev z) λv=>A v p
 |.un op x=>og op (x.ev z) λv=>A v p
 |.cvInt k x=>ff k (x.ev z) λv=>A v p
 |.cvStr x=>re p (x.ev z) λl=>∃Q:List UInt8,l=Q.map LV.b∧A (.str Q) p
 |.cvSame x=>match x.ev z with
  |.str l=>A (.str l) p
  |_=>False
 |.cvBytes x=>match x.ev z with
  |.str l=>A (.dy p.length 0) (p++[.dyn (l.map LV.b) l.length 1 0 0])
  |_=>False
 |.mkFunc f a b=>A (.fn (.func f) (a.map (·.ev z)) (b.map (·.ev z))) p
 |.mkSl g K l c=>match l.ev z,c.ev z with
  |.i l,.i c=>l=c∧0≤l∧l≤1048576∧K.length=g∧A (.dy p.length 0) (p++[.dyn (M7 K l.toNat) l.toNat g 0 0])
  |_,_=>False
 |.slStr x C F=>match x.ev z with
  |.str l=>Oe z 0 C λa=>Oe z l.length F λb=>a≤b∧b≤l.length∧A (.str ((l.drop a).take (b-a))) p
  |_=>False
 |.slSl g x C F=>match x.ev z with
  |.nilSl=>Oe z 0 C λa=>Oe z 0 F λb=>a=0∧b=0∧A .nilSl p
  |.dy D k=>match p[D]? with
   |some (.dyn _ len j B _)=>k=B∧j=g∧Oe z 0 C λa=>Oe z len F λb=>a≤b∧b≤len∧A (.vw D k a (b-a)) p
   |_=>False
  |.vw D k T len=>match p[D]? with
   |some (.dyn _ _ j B _)=>k=B∧j=g∧Oe z 0 C λa=>Oe z len F λb=>a≤b∧b≤len∧A (.vw D k (T+a) (b-a)) p
   |_=>False
  |.lst l len j=>j=g∧Oe z 0 C λa=>Oe z len F λb=>a≤b∧b≤len∧A (.lst ((l.drop (a*j)).take ((b-a)*j)) (b-a) j) p
  |_=>False
 |.slSl3 g x C F I=>match x.ev z with
  |.dy D k=>match p[D]? with
   |some (.dyn _ len j B _)=>k=B∧j=g∧Oe z 0 C λa=>Oe z len F λb=>Oe z 0 (some I) λm=>0<len∧a≤b∧b≤m∧m≤len∧A (lx D k a b m) p
   |_=>False
  |.lst l len j=>j=g∧Oe z 0 C λa=>Oe z len F λb=>Oe z 0 (some I) λm=>0<len∧a≤b∧b≤m∧m≤len∧A (.lst ((l.drop (a*j)).take ((b-a)*j)) (b-a) j) p
  |_=>False
 |.fieldAddr E x=>match x.ev z with
  |.ptr D i=>A (.ptr D (i+E)) p
  |.dptr D k i=>A (.dptr D k (i+E)) p
  |.cptr l i=>A (.cptr l (i+E)) p
  |_=>False
 |.field O n E x=>match x.ev z with
  |.agg l=>match O with
   |true=>E+n≤l.length∧A (.agg ((l.drop E).take n)) p
   |false=>Om l E λv=>A v p
  |_=>False
 |.ixAddr g x i=>match i.ev z with
  |.i n=>yy p g (x.ev z) n λv=>A v p
  |.u n=>yy p g (x.ev z) (n.toNat:Int) λv=>A v p
  |_=>False
 |.ixStr x i=>match x.ev z,i.ev z with
  |.str l,.i n=>0≤n∧n<l.length∧A (.b (l.getD n.toNat 0)) p
  |.str l,.u n=>n.toNat<l.length∧A (.b (l.getD n.toNat 0)) p
  |.str l,.b n=>n.toNat<l.length∧A (.b (l.getD n.toNat 0)) p
  |_,_=>False
 |.extract i x=>match x.ev z with
  |.tup l=>Om l i λv=>A v p
  |_=>False
 |.lenStr x=>match x.ev z with
  |.str l=>A (.i l.length) p
  |_=>False
 |.lenSl x=>lenL p (x.ev z) λn=>A (.i n) p
 |.maxi I x y=>match x.ev z,y.ev z with
  |.i a,.i b=>A (.i (match I with|true=>max a b|false=>min a b)) p
  |.u a,.u b=>A (.u (match I with|true=>if a<b then b else a|false=>if b<a then b else a)) p
  |_,_=>False
 |.max3 I x y K=>match x.ev z with
  |.i a=>match y.ev z with
   |.i b=>match K.ev z with
    |.i d=>A (.i (match I with|true=>max (max a b) d|false=>min (min a b) d)) p
    |_=>False
   |_=>False
  |_=>False
 |.ixAddrArr len g x i=>match i.ev z with
  |.i n=>0≤n∧n<len∧match x.ev z with
   |.ptr D R=>A (.ptr D (R+n.toNat*g)) p
   |.dptr D k R=>A (.dptr D k (R+n.toNat*g)) p
   |.cptr l R=>A (.cptr l (R+n.toNat*g)) p
   |_=>False
  |_=>False
 |.ixArr O len g x i=>match i.ev z with
  |.i n=>0≤n∧n<len∧match x.ev z with
   |.agg l=>match O with
    |true=>n.toNat*g+g≤l.length∧A (.agg ((l.drop (n.toNat*g)).take g)) p
    |false=>Om l (n.toNat*g) λv=>A v p
   |_=>False
  |_=>False
 |.lenArr n _=>A (.i n) p
 |.appZ g K s x=>match x.ev z with
  |.i n=>0≤n∧n≤1048576∧K.length=g∧O9 p g (s.ev z) n.toNat (M7 K n.toNat) A
  |_=>False
 |.appG g s x=>Re p g (x.ev z) λn l=>n≤1048576∧O9 p g (s.ev z) n l A
 |.copy g d x=>Re p g (x.ev z) λn l=>match d.ev z with
  |.dy D k=>match p[D]? with
   |some (.dyn r len j B st)=>k=B∧j=g∧A (.i (min n len:Nat)) (p.set D (.dyn (M5 r 0 (l.take (min n len*g))) len j B (st+1)))
   |_=>False
  |.vw D k C len=>match p[D]? with
   |some (.dyn r G j B st)=>k=B∧j=g∧(C+len)*g≤r.length∧A (.i (min n len:Nat)) (p.set D (.dyn (M5 r (C*g) (l.take (min n len*g))) G j B (st+1)))
   |_=>False
  |_=>False
 |.clear g K x=>match x.ev z with
  |.vw D k C len=>match p[D]? with
   |some (.dyn r G j B st)=>k=B∧j=g∧K.length=g∧(C+len)*g≤r.length∧A .any (p.set D (.dyn (M5 r (C*g) (M7 K len)) G j B (st+1)))
   |_=>False
  |_=>False
 |.mkMap0=>A (.map p.length) (p++[.map [] 0 0])
 |.mkMap1 x=>match x.ev z with
  |.i _=>A (.map p.length) (p++[.map [] 0 0])
  |_=>False
 |.lookup d K ok x i=>Uw p (x.ev z) λP=>fi d (i.ev z) (yr K ok λv=>A v p) P
 |.mapUpd d m k v=>kz p d (m.ev z) (k.ev z) (v.ev z) λN=>A .any N
 |.lenMap x=>Uw p (x.ev z) λP=>A (.i P.length) p
 |.slArr n g x C F=>match x.ev z with
  |.ptr D i=>match p[D]? with
   |some (.cells l st)=>i+n*g≤l.length∧Oe z 0 C λa=>Oe z n F λb=>a≤b∧b≤n∧A (.lst ((l.drop (i+a*g)).take ((b-a)*g)) (b-a) g) (p.set D (.dead (st+1)))
   |_=>False
  |_=>False
 |.callV f H=>match f.ev z with
  |.fn (.func O) a b=>Qq S (.fn O) (a++H.map (·.ev z)++b) p A
  |.fn (.yield D) [] _=>Qq S (.yield D) (H.map (·.ev z)) p A
  |_=>False
end
variable{Z:List LV}
section
def us{t:Tr AV}:∀{n i:Nat} {l:List AV},l.length=n→(∀g,g<n→Mm (Mx (i+g)) t=l[g]?)→Rm t i n=some l
 |0,i,l,h,_=>by
  have:l=[]:=Ig h;subst this;rfl
 |n+1,i,[],h,_=>B8
 |n+1,i,a::l,h,k=>by
  have j:=k 0 J;simp only[Kq,H6]at j;have p:=us (t:=t) (n:=n) (i:=i+1) (l:=l) Ay (λg z=>by
   have:=k (g+1) J;rw[H8]at this;rw[←this,show i+1+g=i+(g+1) from J])
  simp only[Rm,j,p]
def zms{t:Tr AV}{i n:Nat}{l:List AV}(h:Rm t 0 g=some l)(j:i+n≤g):Rm t i n=some ((l.drop i).take n):=by
 obtain⟨A,p⟩:=aq h;refine us Ab (λB z=>?_);have:=p (i+B) J;rw[Is]at this;rw[this,Ij z,J9]
def jm(l:List AV):Rm (Ou l 0 .e) 0 l.length=some l :=
 us rfl (λj g=>by rw[get_ofList,Hs J];simp)
def Yi(l:List AV)(i:Nat)(r:List AV):List AV:=l.take i++r++l.drop (i+r.length)
def zml{l r:List AV}{i:Nat}(h:i+r.length≤l.length):(Yi l i r).length=l.length:=by
 unfold Yi;simp;omega
def zgz{l r:List AV}{i:Nat}(h:i+r.length≤l.length)(g:Nat):(Yi l i r)[g]?=if i≤g∧g<i+r.length then r[g-i]? else l[g]?:=by
 have j:(l.take i).length=i:=Ab
 unfold Yi;by_cases p:g<i
 ·rw[Hq J,H7,Hk J,Ij p]
 ·by_cases z:g<i+r.length
  ·rw[Hs J,Hk Ab,H5 J,j]
  ·rw[Hq J,H5 Ab,J9]
   congr 1
   simp;omega
def zef{t:Tr AV}{i:Nat}{l r:List AV}(h:Rm t 0 g=some l)(j:i+r.length≤g):Rm (Ou r i t) 0 g=some (Yi l i r):=by
 obtain⟨p,z⟩:=aq h;refine us (by rw[zml J];exact p) (λB A=>?_);have:=z B A;rw[Is]at this ⊢;rw[get_ofList,zgz J,this]
def znc{t:Tr AV}{l r:List AV}(h:Rm t 0 g=some l):Rm (Ou r g t) 0 (g+r.length)=some (l++r):=by
 obtain⟨p,z⟩:=aq h;refine us Ab (λA B=>?_);rw[Is,get_ofList];by_cases j:g≤A
 ·rw[Hs ⟨j,J⟩,H5 J,p]
 ·rw[Hq J,Hk J];have:=z A J
  rwa [Is]at this
def Tb{H:Heap}{o v i n:Nat}{t:Tr AV}{l:List AV}(z:H.get o=some (.cells t j v I))(A:Rm t 0 g=some l)(C:g≤j)(p:i+n≤g):Pa H o v i n=some ((l.drop i).take n):=by
 unfold Pa;rw[z];have B:Nat.ble (Nat.add i n) j=true:=Ho (by show i+n≤j;omega);simp only[Ii,B];exact zms A p
def qp{o:Nat}(h:S.get o=A.get o)(v i n:Nat):Pa S o v i n=Pa A o v i n:=by
 unfold Pa;rw[h]
def zio{o v i n m:Nat}{l:List AV}(h:Pa A o v i n=some l)(z:g+m≤n):Pa A o v (i+g) m=some ((l.drop g).take m):=by
 unfold Pa at h ⊢;split at h
 ·rename_i t j B G H;split at h
  ·rename_i I;split at h
   ·rename_i C;have D:i+n≤j:=Hw C;have p:Nat.ble (Nat.add (i+g) m) j=true:=Ho (by show i+g+m≤j;omega);simp only[p];obtain⟨K,E⟩:=aq h;refine us Ab (λq F=>?_);have:=E (g+q) J;rw[Iu,this,Ij F,J9]
   ·cases h
  ·cases h
 ·cases h
def zd3{o v i n:Nat}{l:List AV}(h:Pa A o v i n=some l):l.length=n:=by
 unfold Pa at h;split at h
 ·split at h
  ·split at h
   ·exact (aq h).1
   ·cases h
  ·cases h
 ·cases h
section lists
variable {c : Cx}
def ARs.length:∀{l:List LV} {r:List AV},ARs c l r→l.length=r.length
 |_,_,.nil=>rfl
 |_,_,.cons _ es=>by simp[ARs.length es]
def ARs.get:∀{l:List LV} {r:List AV},ARs c l r→∀{i:Nat} {v:LV},l[i]?=some v→∃a,r[i]?=some a∧AR c v a
 |_,_,.nil,i,v,h=>B8
 |_,_,.cons e es,0,v,h=>Dc
 |_,_,.cons e es,i+1,v,h=>by simp only[H8]at h ⊢;exact ARs.get es h
def ARs.append:∀{l:List LV} {r:List AV} {l':List LV} {r':List AV},ARs c l r→ARs c l' r'→ARs c (l++l') (r++r')
 |_,_,_,_,.nil,k=>k
 |_,_,_,_,.cons e es,k=>.cons e (ARs.append es k)
def ARs.drop:∀{l:List LV} {r:List AV},ARs c l r→∀n,ARs c (l.drop n) (r.drop n)
 |_,_,h,0=>h
 |_,_,.nil,_+1=>.nil
 |_,_,.cons _ es,n+1=>ARs.drop es n
def ARs.take:∀{l:List LV} {r:List AV},ARs c l r→∀n,ARs c (l.take n) (r.take n)
 |_,_,_,0=>.nil
 |_,_,.nil,_+1=>.nil
 |_,_,.cons e es,n+1=>.cons e (ARs.take es n)
def ARs.lay{l r:List LV}{l' r':List AV}(h:ARs c l l')(k:ARs c r r')(i:Nat):ARs c (M5 l i r) (Yi l' i r'):=by
 unfold M5 Yi;rw[k.length];exact ((h.take i).append k).append (h.drop _)
def z9w{l r:List LV}{i:Nat}(h:i+r.length≤l.length):(M5 l i r).length=l.length:=by
 unfold M5;simp;omega
def ARs.rep{z:List LV}{z':List AV}(h:ARs c z z'):∀n,ARs c (M7 z n) (R4 z' n)
 |0=>.nil
 |n+1=>h.append (ARs.rep h n)
def u9(g:List LV):∀n,(M7 g n).length=n*g.length
 |0=>by simp[M7]
 |n+1=>by simp[M7,u9 g n,Ih];omega
end lists
def zud(c:Cx){v:LV}(h:v.scal=true):AR c v (toA v):=by
 cases v<;>first|(cases h;done)|(unfold toA;constructor)
def iw(c:Cx):∀{l:List LV},l.all LV.scal=true→ARs c l (toAs l)
 |[],_=>by unfold toAs;exact .nil
 |v::l,h=>by
  simp only[Jx,Hh]at h;unfold toAs;exact .cons (zud c h.1) (iw c h.2)
def Yy(c:Cx){v:LV}(h:v.cst=true):AR c v (toA v):=by
 unfold LV.cst at h;split at h
 ·unfold toA;exact .fn .nil .nil
 ·unfold toA;exact .agg (iw c h)
 ·unfold toA toAs;exact .tup .nil
 ·exact zud c h
def AR.cells{c:Cx}{v:LV}{a:AV}(h:AR c v a){l:List LV}(p:v.cells=some l):∃l',a.cells=some l'∧ARs c l l':=by
 cases v with
 |any=>cases p
 |tup _=>cases p
 |agg l0=>cases p;cases h with|agg h=>exact⟨_,rfl,h⟩
 |dy gg k =>
  simp only[LV.cells,Option.some.injEq]at p;subst p;have h0:=h;refine⟨[a],?_,.cons h0 .nil⟩;cases h with|dy _ _ _ hs=>cases a<;>first|rfl|cases hs
 |vw gg k lo len =>
  simp only[LV.cells,Option.some.injEq]at p;subst p;have h0:=h;refine⟨[a],?_,.cons h0 .nil⟩;cases h with|vw _ _ _ hs _=>cases a<;>first|rfl|cases hs
 |vf gg k len =>
  simp only[LV.cells,Option.some.injEq]at p;subst p;have h0:=h;refine⟨[a],?_,.cons h0 .nil⟩;cases h with|vf _ _ _ hs=>cases a<;>first|rfl|cases hs
 |_ =>
  simp only[LV.cells,Option.some.injEq]at p;subst p;have h0:=h;refine⟨[a],?_,.cons h0 .nil⟩;cases h<;>rfl
def CxLe.refl(c:Cx):CxLe c c:=⟨λ_ k h e=>⟨k,h,e,Hm _,λ_=>rfl,λ_=>rfl⟩,λ_ h=>⟨h,rfl⟩⟩
def CxLe.trans{a b c:Cx}(h:CxLe a b)(k:CxLe b c):CxLe a c:=by
 refine⟨λgg v x e=>?_,λo e=>?_⟩
 ·obtain⟨v1,x1,e1,l1,s1,f1⟩:=h.hd gg v x e;obtain⟨v2,x2,e2,l2,s2,f2⟩:=k.hd gg v1 x1 e1;refine⟨v2,x2,e2,Ix l1 l2,λq=>?_,λq=>?_⟩
  ·have p:v=v1:=J
   have q2:v1=v2:=J
   rw[s1 p,s2 q2]
  ·have p:=f1 q;have:=s1 p;subst this;rw[p,f2 q]
 ·obtain⟨h1,h2⟩:=h.fz o e;obtain⟨h3,h4⟩:=k.fz o h1;exact⟨h3,h4.trans h2⟩
def CxLe.fix{c p:Cx}(h:CxLe c p){k:Nat}{x:AV}(e:c.hd[j]?=some (k,x))(hf:V7 x=true):p.hd[j]?=some (k,x):=by
 obtain⟨k',x',e',_,s,f⟩:=h.hd j k x e;have:=f hf;subst this;rw[s rfl];exact e'
mutual
def AR.mono{c c':Cx}(h:CxLe c c'):∀{v:LV} {a:AV},AR c v a→AR c' v a
 |_,_,.any a=>.any a
 |_,_,.bool b=>.bool b
 |_,_,.u x=>.u x
 |_,_,.b x=>.b x
 |_,_,.i n=>.i n
 |_,_,.int k n=>.int k n
 |_,_,.str l=>.str l
 |_,_,.nilPtr=>.nilPtr
 |_,_,.ptr e=>.ptr (h.fix e rfl)
 |_,_,.dptr hp hk ha=>by
  obtain⟨k2,h2,e2,l2,s2,_⟩:=h.hd _ _ _ hp;refine .dptr e2 (Ix hk l2) (λq=>?_);have q1:=ha J;rw[←s2 J];exact q1
 |_,_,.cptr hf hr hl=>.cptr (h.fz _ hf).1 (by rw[qp (h.fz _ hf).2];exact hr) (ARs.mono h hl)
 |_,_,.nilSl=>.nilSl
 |_,_,.dy hp hk ha hs=>by
  obtain⟨k2,h2,e2,l2,s2,_⟩:=h.hd _ _ _ hp;refine .dy e2 (Ix hk l2) (λq=>?_) hs;have q1:=ha J;rw[←s2 J];exact q1
 |_,_,.vw hp hk ha hs hz=>by
  obtain⟨k2,h2,e2,l2,s2,_⟩:=h.hd _ _ _ hp;refine .vw e2 (Ix hk l2) (λq=>?_) hs (λq=>?_)
  ·have q1:=ha J;rw[←s2 J];exact q1
  ·have q1:=hz J;rw[←s2 J];exact q1
 |_,_,.vf hp hk ha hs=>by
  obtain⟨k2,h2,e2,l2,s2,_⟩:=h.hd _ _ _ hp;refine .vf e2 (Ix hk l2) (λq=>?_) hs;have q1:=ha J;rw[←s2 J];exact q1
 |_,_,.lst hf gg hlen hr hl=>.lst (h.fz _ hf).1 gg hlen (by rw[qp (h.fz _ hf).2];exact hr) (ARs.mono h hl)
 |_,_,.lstNil=>.lstNil
 |_,_,.lstEmp=>.lstEmp
 |_,_,.nilMap=>.nilMap
 |_,_,.map e=>.map (h.fix e rfl)
 |_,_,.nilFn=>.nilFn
 |_,_,.fn hl hr=>.fn (ARs.mono h hl) (ARs.mono h hr)
 |_,_,.yield e=>.yield (h.fix e rfl)
 |_,_,.nilIf=>.nilIf
 |_,_,.iface e=>.iface (AR.mono h e)
 |_,_,.agg e=>.agg (ARs.mono h e)
 |_,_,.tup e=>.tup (ARs.mono h e)
def ARs.mono{c c':Cx}(h:CxLe c c'):∀{l:List LV} {r:List AV},ARs c l r→ARs c' l r
 |_,_,.nil=>.nil
 |_,_,.cons e es=>.cons (AR.mono h e) (ARs.mono h es)
end
def MRs.mono{c c':Cx}(h:CxLe c c'):∀{l:List (LV×LV×Nat)} {r:List (AV×AV×Nat)},MRs c l r→MRs c' l r
 |_,_,.nil=>.nil
 |_,_,.cons hk hv hs=>.cons (hk.mono h) (hv.mono h) (MRs.mono h hs)
def Nl.mono{c c':Cx}(h:CxLe c c'){ρ:Ml}{E:Tr AV}(k:Nl c ρ E):Nl c' ρ E:=λt=>(k t).mono h
def kr.mono{c c':Cx}(h:CxLe c c'){k:Nat}{x:AV}{ob:LObj}(hg:∀o,Nf x=some o→c'.H.get o=c.H.get o)(r:kr c k x ob):kr c' k x ob:=by
 cases ob with
 |dead st=>trivial
 |cells l st =>
  obtain⟨r0,o,t,l',rfl,r2,r3,r4⟩:=r;exact⟨r0,o,t,l',rfl,Co,r3,r4.mono h⟩
 |dyn l len gB gC st =>
  obtain⟨r0,r1,r2⟩:=r;refine⟨r0,r1,?_⟩;rcases r2 with r2|⟨o,v,room,t,gg,l',rfl,r3,r4,r5,r6,r7⟩
  ·exact .inl r2
  ·exact .inr ⟨o,v,room,t,gg,l',rfl,by rw[hg o rfl];exact r3,r4,r5,r6.mono h,r7⟩
 |map es ck st =>
  obtain⟨r0,o,gA,rfl,r2,r3⟩:=r;exact⟨r0,o,gA,rfl,Co,r3.mono h⟩
 |iter l pos =>
  obtain⟨r0,o,rfl,r2⟩:=r;exact⟨r0,o,rfl,Co⟩
 |loop s pend f n ρ ps a b d =>
  obtain⟨r0,o,od,E,rfl,r2,r3,r4⟩:=r;exact⟨r0,o,od,E,rfl,h.fix r2 rfl,by rw[hg o rfl];exact r3,r4.mono h⟩
 |defd op =>
  obtain⟨r0,o,rfl,r2⟩:=r;exact⟨r0,o,rfl,Co⟩
def Step.refl(c:Cx)(G:Mh):Step c G c G:=by
 refine⟨.refl c,Hm _,λ_ _ _=>rfl,λ_ h=>.inl h,λ_ h=>.inl h,λgA ob gg e1 p=>?_,λgA ob gg k h o e1 p _ _ _ _=>?_⟩
 ·rw[e1]at p;cases p;exact Hm _
 ·rw[e1]at p;cases p;exact⟨rfl,rfl,rfl⟩
def Step.trans{c c1 c2:Cx}{G G1 G2:Mh}(h0:HSim c G)(h1:HSim c1 G1)(s1:Step c G c1 G1)(s2:Step c1 G1 c2 G2):Step c G c2 G2:=by
 have gB:∀gA ob,G[gA]?=some ob→∃p,G1[gA]?=some p:=λgA ob e=>by
  have hp:gA<c.hd.length:=by rw[h0.len];exact (Hf.1 e).1
  obtain⟨k,h,e3⟩:∃k h,c.hd[gA]?=some (k,h):=⟨_,_,Hj hp⟩;obtain⟨k1,x1,q1,_,_,_⟩:=s1.le.hd gA k h e3;have hp:gA<G1.length:=by rw[←h1.len];exact (Hf.1 q1).1
  exact⟨_,Hj hp⟩
 refine⟨s1.le.trans s2.le,Ix s1.nx s2.nx,λo ho hn=>?_,λo ho=>?_,λo ho=>?_,λgA ob gg e1 e2=>?_,λgA ob gg k h o e1 e2 e3 e4 hl he=>?_⟩
 ·rw[s2.frame o (Ik ho s1.nx) (λhc=>?_),s1.frame o ho hn];rcases s1.new o hc with h|h
  ·exact hn h
  ·omega
 ·rcases s2.new o ho with h|h
  ·exact s1.new o h
  ·exact .inr (Ix s1.nx h)
 ·rcases s2.fznew o ho with h|h|h
  ·exact s1.fznew o h
  ·rcases s1.new o h with h|h
   ·exact .inr (.inl h)
   ·exact .inr (.inr h)
  ·exact .inr (.inr (Ix s1.nx h))
 ·obtain⟨p,q2⟩:=gB gA ob e1;exact Ix (s1.mono gA ob p e1 q2) (s2.mono gA p gg q2 e2)
 ·obtain⟨p,q2⟩:=gB gA ob e1;have m1:=s1.mono gA ob p e1 q2;have m2:=s2.mono gA p gg q2 e2;obtain⟨rfl,r3,r4⟩:=s1.st gA ob p k h o e1 q2 e3 e4 hl J;obtain⟨rfl,r7,r8⟩:=s2.st gA p gg k h o q2 e2 (by rw[r4];exact e3) e4 hl J;rw[r7,r8,r3,r4];exact⟨rfl,rfl,rfl⟩
def HSim.push{c:Cx}{G:Mh}(hs:HSim c G){H':Heap}{x:AV}{ob:LObj}(gE:c.H.next≤H'.next)(gD:∀o,o<c.H.next→H'.get o=c.H.get o)(gF:∀o,Nf x=some o→c.H.next≤o∧o<H'.next)
  (gI:kr ⟨c.hd++[(0,x)],c.Fz,H'⟩ 0 x ob):HSim ⟨c.hd++[(0,x)],c.Fz,H'⟩ (G++[ob])∧Step c G ⟨c.hd++[(0,x)],c.Fz,H'⟩ (G++[ob])∧CxLe c ⟨c.hd++[(0,x)],c.Fz,H'⟩:=by
 have gH:∀(gA k:Nat) (h:AV),c.hd[gA]?=some (k,h)→(c.hd++[(0,x)])[gA]?=some (k,h):=λgA k h e=>by
  rw[Hk (Hf.1 e).1];exact e
 have hle:CxLe c ⟨c.hd++[(0,x)],c.Fz,H'⟩:=⟨λgA k h e=>⟨k,h,gH gA k h e,Hm _,λ_=>rfl,λ_=>rfl⟩,λo ho=>⟨ho,gD o (hs.fz o ho)⟩⟩;have hinv:∀(gA:Nat) (k:Nat) (h:AV) (p:LObj),(c.hd++[(0,x)])[gA]?=some (k,h)→(G++[ob])[gA]?=some p→(c.hd[gA]?=some (k,h)∧G[gA]?=some p)∨(gA=G.length∧k=0∧h=x∧p=ob):=by
  intro gA k h p e1 e2;by_cases hp:gA<G.length
  ·rw[Hk hp]at e2;rw[Hk (by rw[hs.len];exact hp)]at e1;exact .inl ⟨e1,e2⟩
  ·have gK:gA=G.length:=by
    have:=(Hf.1 e2).1;simp at this;omega
   subst gK;rw[Iq]at e2;rw[←hs.len,Iq]at e1;cases e1;cases e2;exact .inr ⟨rfl,rfl,rfl,rfl⟩
 have gB:∀o,Ow ⟨c.hd++[(0,x)],c.Fz,H'⟩ (G++[ob]) o→Ow c G o∨(c.H.next≤o∧o<H'.next):=by
  rintro o ⟨gA,p,k,h,e1,e2,e3,e4⟩;rcases hinv gA k h p e3 e1 with ⟨q1,q2⟩|⟨_,_,rfl,_⟩
  ·exact .inl ⟨gA,p,k,h,q2,e2,q1,e4⟩
  ·exact .inr (gF o e4)
 refine⟨⟨Eo,λo ho=>Ik (hs.fz o ho) gE,λo ho=>?_,λo ho hf=>?_,λgA p k h e1 e2=>?_,?_⟩,⟨hle,gE,λo ho _=>gD o ho,λo ho=>?_,λo ho=>.inl ho,λgA gg gC e1 e2=>?_,λgA gg gC k h o e1 e2 e3 e4 hl _=>?_⟩,hle⟩
 ·rcases gB o ho with h|h
  ·exact Ik (hs.lt o h) gE
  ·exact h.2
 ·rcases gB o ho with h|h
  ·exact hs.sep o h hf
  ·have:=hs.fz o hf;omega
 ·rcases hinv gA k h p e2 e1 with ⟨q1,q2⟩|⟨_,rfl,rfl,rfl⟩
  ·by_cases hl:p.live=true
   ·exact (hs.obj gA p k h q2 q1).mono hle (λo ho=>gD o (hs.lt o ⟨gA,p,k,h,q2,hl,q1,ho⟩))
   ·cases p<;>first|exact absurd rfl hl|trivial
  ·exact gI
 ·intro gA q gg gC k h k' h' o e1 e2 e3 e4 e5 e6 e7 e8;rcases hinv gA k h gg e5 e1 with ⟨q1,q2⟩|⟨r1,_,rfl,rfl⟩<;>rcases hinv q k' h' gC e6 e2 with ⟨q3,q4⟩|⟨r2,_,rfl,rfl⟩
  ·exact hs.excl gA q gg gC k h k' h' o q2 q4 e3 e4 q1 q3 e7 e8
  ·have:=hs.lt o ⟨gA,gg,k,h,q2,e3,q1,e7⟩;have:=gF o e8;omega
  ·have:=hs.lt o ⟨q,gC,k',h',q4,e4,q3,e8⟩;have:=gF o e7;omega
  ·omega
 ·rcases gB o ho with h|h
  ·exact .inl h
  ·exact .inr h.1
 ·rw[Hk (Hf.1 e1).1,e1]at e2;cases e2;exact Hm _
 ·rw[Hk (Hf.1 e1).1,e1]at e2;cases e2;have gG:gg.live=true:=by cases gg<;>first|rfl|cases hl
  exact⟨rfl,gD o (hs.lt o ⟨gA,gg,k,h,e1,gG,e3,e4⟩),by rw[gH gA k h e3,e3]⟩
def HSim.upd{c:Cx}{G:Mh}(hs:HSim c G){k k':Nat}{x x':AV}{ob ob':LObj}{H':Heap}(hG:G[j]?=some ob)(hl:ob.live=true)(hp:c.hd[j]?=some (k,x))(gG:c.H.next≤H'.next)
  (gF:∀o,o<c.H.next→Nf x≠some o→H'.get o=c.H.get o) (gH:∀o,Nf x'=some o→(Nf x=some o∨c.H.next≤o)∧o<H'.next)
  (hk:k≤k') (hx:k=k'→x=x') (hf:V7 x=true→k=k') (gK:ob.st<ob'.st∨(ob.stp=false∧ob.st≤ob'.st))
  (gM:CxLe c ⟨c.hd.set j (k',x'),c.Fz,H'⟩→kr ⟨c.hd.set j (k',x'),c.Fz,H'⟩ k' x' ob') :
  HSim ⟨c.hd.set j (k',x'),c.Fz,H'⟩ (G.set j ob')∧Step c G ⟨c.hd.set j (k',x'),c.Fz,H'⟩ (G.set j ob')∧CxLe c ⟨c.hd.set j (k',x'),c.Fz,H'⟩:=by
 have gL:j<c.hd.length:=(Hf.1 hp).1;have gI:j<G.length:=(Hf.1 hG).1;have gA:∀o,Nf x=some o→Ow c G o:=λo ho=>⟨j,ob,k,x,hG,hl,hp,ho⟩
 have hle:CxLe c ⟨c.hd.set j (k',x'),c.Fz,H'⟩:=by
  refine⟨λq k1 h1 e=>?_,λo ho=>⟨ho,gF o (hs.fz o ho) (λq=>hs.sep o (gA o q) ho)⟩⟩;by_cases hq:q=j
  ·subst hq;rw[hp]at e;cases e;exact⟨k',x',by dsimp only;rw[Hi gL],hk,hx,hf⟩
  ·exact⟨k1,h1,by dsimp only;rw[Hg (Ne.symm hq)];exact e,Hm _,λ_=>rfl,λ_=>rfl⟩
 have hinv:∀(q:Nat) (k1:Nat) (h1:AV) (p:LObj),(c.hd.set j (k',x'))[q]?=some (k1,h1)→(G.set j ob')[q]?=some p→(q≠j∧c.hd[q]?=some (k1,h1)∧G[q]?=some p)∨(q=j∧k1=k'∧h1=x'∧p=ob'):=by
  intro q k1 h1 p e1 e2;by_cases hq:q=j
  ·subst hq;rw[Hi gL]at e1;rw[Hi gI]at e2;cases e1;cases e2;exact .inr ⟨rfl,rfl,rfl,rfl⟩
  ·rw[Hg (Ne.symm hq)]at e1 e2;exact .inl ⟨hq,e1,e2⟩
 have gg:∀(q:Nat) (k1:Nat) (h1:AV) (p:LObj) (o:Nat),q≠j→c.hd[q]?=some (k1,h1)→G[q]?=some p→p.live=true→Nf h1=some o→Nf x≠some o:=by
  intro q k1 h1 p o hq e1 e2 e3 e4 e5;exact hq (hs.excl q j p ob k1 h1 k x o e2 hG e3 hl e1 hp e4 e5)
 have gD:∀o,Ow ⟨c.hd.set j (k',x'),c.Fz,H'⟩ (G.set j ob') o→(Ow c G o∧o<c.H.next)∨(c.H.next≤o∧o<H'.next):=by
  rintro o ⟨q,p,k1,h1,e1,e2,e3,e4⟩;rcases hinv q k1 h1 p e3 e1 with ⟨_,q1,q2⟩|⟨_,_,rfl,_⟩
  ·have:=(⟨q,p,k1,h1,q2,e2,q1,e4⟩:Ow c G o);exact .inl ⟨this,hs.lt o this⟩
  ·obtain⟨q1,q2⟩:=gH o e4;rcases q1 with q1|q1
   ·exact .inl ⟨gA o q1,hs.lt o (gA o q1)⟩
   ·exact .inr ⟨q1,q2⟩
 refine⟨⟨Eo,λo ho=>Ik (hs.fz o ho) gG,λo ho=>?_,λo ho hf=>?_,λq p k1 h1 e1 e2=>?_,?_⟩,⟨hle,gG,λo ho hn=>gF o ho (λq=>hn (gA o q)),λo ho=>?_,λo ho=>.inl ho,λq p gB e1 e2=>?_,λq p gB k1 h1 o e1 e2 e3 e4 gE he=>?_⟩,hle⟩
 ·rcases gD o ho with h|h
  ·exact Ik h.2 gG
  ·exact h.2
 ·rcases gD o ho with h|h
  ·exact hs.sep o h.1 hf
  ·have:=hs.fz o hf;omega
 ·rcases hinv q k1 h1 p e2 e1 with ⟨hq,q1,q2⟩|⟨_,rfl,rfl,rfl⟩
  ·by_cases gC:p.live=true
   ·refine (hs.obj q p k1 h1 q2 q1).mono hle (λo ho=>gF o (hs.lt o ⟨q,p,k1,h1,q2,gC,q1,ho⟩) (gg q k1 h1 p o hq q1 q2 gC ho))
   ·cases p<;>first|exact absurd rfl gC|trivial
  ·exact gM hle
 ·intro q r p gB k1 h1 k2 h2 o e1 e2 e3 e4 e5 e6 e7 e8;rcases hinv q k1 h1 p e5 e1 with ⟨r0,q1,q2⟩|⟨r1,_,rfl,rfl⟩<;>rcases hinv r k2 h2 gB e6 e2 with ⟨r3,q3,q4⟩|⟨r2,_,rfl,rfl⟩
  ·exact hs.excl q r p gB k1 h1 k2 h2 o q2 q4 e3 e4 q1 q3 e7 e8
  ·have h3:=hs.lt o ⟨q,p,k1,h1,q2,e3,q1,e7⟩;rcases (gH o e8).1 with h|h
   ·exact absurd h (gg q k1 h1 p o r0 q1 q2 e3 e7)
   ·omega
  ·have h3:=hs.lt o ⟨r,gB,k2,h2,q4,e4,q3,e8⟩;rcases (gH o e7).1 with h|h
   ·exact absurd h (gg r k2 h2 gB o r3 q3 q4 e4 e8)
   ·omega
  ·omega
 ·rcases gD o ho with h|h
  ·exact .inl h.1
  ·exact .inr h.1
 ·by_cases hq:q=j
  ·subst hq;rw[Hi gI]at e2;cases e2;rw[hG]at e1;cases e1;rcases gK with h|h
   ·exact L6 h
   ·exact h.2
  ·rw[Hg (Ne.symm hq),e1]at e2;cases e2;exact Hm _
 ·by_cases hq:q=j
  ·subst hq;rw[Hi gI]at e2;cases e2;rw[hG]at e1;cases e1;rcases gK with h|h
   ·omega
   ·rw[h.1]at gE;cases gE
  ·rw[Hg (Ne.symm hq),e1]at e2;cases e2;have gC:p.live=true:=by cases p<;>first|rfl|cases gE
   exact⟨rfl,gF o (hs.lt o ⟨q,p,k1,h1,e1,gC,e3,e4⟩) (gg q k1 h1 p o hq e3 e1 gC e4),by dsimp only;rw[Hg (Ne.symm hq)]⟩
end
section
def Vp(n:Int):To .u64 n=n%18446744073709551616:=by
 rw[Ww];rfl
def ja(n:Int):To .u8 n=n%256:=by
 rw[Ww];rfl
def Vy{n:Int}(h:Q9 n):To .i64 n=n:=by
 rw[Ww];obtain⟨g,j⟩:=h;show (if (true&&decide (n%18446744073709551616 ≥ 9223372036854775808))=true then n%18446744073709551616-18446744073709551616 else n%18446744073709551616)=n;simp only[K7,Ht];split<;>omega
def ae(a b:Int):e9 a b=decide (a=b):=by
 rw[jh,I1];simp
def S7(a b:Int):jl a b=decide (a<b):=gl a b
def kc(a b:Int):(!(decide (b<a)))=decide (a≤b):=by
 rw[I1];simp
def zth(x:UInt64):Nat.blt x.toNat (Ta .u64)=true:=by
 have:=x.toNat_lt;unfold Nat.blt;exact Ho (by show x.toNat+1≤2*9223372036854775808;omega)
def Yf(x:UInt8):Nat.blt x.toNat (Ta .u8)=true:=by
 have:=x.toNat_lt;unfold Nat.blt;exact Ho (by show x.toNat+1≤2*128;omega)
variable {c : Cx} {K : LV → Prop}
def AR.u'{x:UInt64}{n:Int}(h:n=Int.ofNat x.toNat):AR c (.u x) (.int .u64 n):=by subst h;exact .u x
def AR.b'{x:UInt8}{n:Int}(h:n=Int.ofNat x.toNat):AR c (.b x) (.int .u8 n):=by subst h;exact .b x
def AR.bool'{x y:Bool}(h:y=x):AR c (.bool x) (.bool y):=by subst h;exact .bool y
def zjt(a b:UInt64):decide (Int.ofNat a.toNat=Int.ofNat b.toNat)=decide (a=b):=by
 rw[I1];simp only[Ht];constructor
 ·intro h;exact J7.1 (Int.ofNat.inj h)
 ·intro h;rw[h]
def zf6(a b:UInt64):decide (Int.ofNat a.toNat<Int.ofNat b.toNat)=decide (a<b):=by
 rw[I1];simp only[Ht,Lp];exact Int.ofNat_lt
def zq6(a b:UInt64):decide (Int.ofNat a.toNat≤Int.ofNat b.toNat)=decide (a≤b):=by
 rw[I1];simp only[Ht,UInt64.le_iff_toNat_le];exact Int.ofNat_le
def zqa(a b:UInt8):decide (Int.ofNat a.toNat=Int.ofNat b.toNat)=decide (a=b):=by
 rw[I1];simp only[Ht];constructor
 ·intro h;exact UInt8.toNat_inj.1 (Int.ofNat.inj h)
 ·intro h;rw[h]
def zps(a b:UInt8):decide (Int.ofNat a.toNat<Int.ofNat b.toNat)=decide (a<b):=by
 rw[I1];simp only[Ht,UInt8.lt_iff_toNat_lt];exact Int.ofNat_lt
def zpk(a b:UInt8):decide (Int.ofNat a.toNat≤Int.ofNat b.toNat)=decide (a≤b):=by
 rw[I1];simp only[Ht,UInt8.le_iff_toNat_le];exact Int.ofNat_le
def Qo(c:Cx)(K:LV→Prop)(r:Option AV):Prop:=∃v a,r=some a∧AR c v a∧K v
def Qo.mk{v:LV}{a:AV}(h:AR c v a)(k:K v):Qo c K (some a):=⟨v,a,rfl,h,k⟩
def jk(a:UInt64)(s:Nat):To .u64 (.ofNat (Nat.mul a.toNat (Nat.pow 2 (O0 s (IntKind.bits .u64)))))=Int.ofNat (Zn a s).toNat:=by
 rw[Vp];have hm:O0 s (IntKind.bits .u64)=min s 64:=by
  unfold O0;by_cases h:s≤64
  ·rw[show Nat.ble s (IntKind.bits .u64)=true from Ho h];simp[I2 h]
  ·have:Nat.ble s (IntKind.bits .u64)=false:=by
    cases g:Nat.ble s (IntKind.bits .u64) with
    |false=>rfl
    |true=>exact absurd (Hw g) h
   rw[this];simp only[IntKind.bits];omega
 rw[hm];rw[fw,Jn];show (Int.ofNat (a.toNat*2^min s 64))%18446744073709551616=Int.ofNat (a.toNat*2^s%2^64);by_cases h:s≤64
 ·rw[I2 h];rfl
 ·rw[Nat.min_eq_right J];have e:2^s=2^64*2^(s-64):=by rw[←Nat.pow_add];congr 1;omega
  have:a.toNat*2^s%2^64=0:=by
   rw[e,←Nat.mul_assoc,Nat.mul_comm a.toNat,Nat.mul_assoc,Nat.mul_mod_right]
  rw[this];have j:a.toNat*2^64%2^64=0:=Nat.mul_mod_left _ _;show Int.ofNat (a.toNat*2^64%2^64)=0;rw[j];rfl
def jr(a:UInt64)(s:Nat):Int.ofNat (Nat.div a.toNat (Nat.pow 2 (O0 s (IntKind.bits .u64))))=Int.ofNat (Pb a s).toNat:=by
 have hm:O0 s (IntKind.bits .u64)=min s 64:=by
  unfold O0;by_cases h:s≤64
  ·rw[show Nat.ble s (IntKind.bits .u64)=true from Ho h];simp[I2 h]
  ·have:Nat.ble s (IntKind.bits .u64)=false:=by
    cases j:Nat.ble s (IntKind.bits .u64) with
    |false=>rfl
    |true=>exact absurd (Hw j) h
   rw[this];simp only[IntKind.bits];omega
 rw[hm];rw[zoo,Jn];have g:=a.toNat_lt;show Int.ofNat (a.toNat/2^min s 64)=Int.ofNat (a.toNat/2^s%2^64);have p:a.toNat/2^s%2^64=a.toNat/2^s:=Ju (Nat.lt_of_le_of_lt (Nat.div_le_self _ _) g);rw[p];by_cases h:s≤64
 ·rw[I2 h]
 ·rw[Nat.min_eq_right J,Nat.div_eq_of_lt g];rw[Nat.div_eq_of_lt (Ik g (Nat.pow_le_pow_right J J))]
def qq{op:BinOp}{t:TypeId}{a b:UInt64}(h:V9 op a b K):Qo c K (Oh p op I t (.int .u64 (Int.ofNat a.toNat)) (.int .u64 (Int.ofNat b.toNat))):=by
 have D:Vj .u64 .u64=true:=rfl;have j:=a.toNat_lt;have g:=b.toNat_lt;cases op<;>simp only[V9,zki,zp2,zje,co,cp,zvl,pw,gc,zsy]at h<;>simp only[Oh,D,qt,Wc,xi,zth]
 case add=>exact .mk (.u' (by rw[Vp,UInt64.toNat_add];rfl)) h
 case sub =>
  refine .mk (.u' ?_) h;rw[Vp,UInt64.toNat_sub];show (Int.ofNat a.toNat-Int.ofNat b.toNat)%_=((2^64-b.toNat+a.toNat)%2^64:Nat);simp only[Ia];omega
 case mul=>exact .mk (.u' (by rw[Vp,UInt64.toNat_mul];rfl)) h
 case quo =>
  obtain⟨A,B⟩:=h;have C:W8 (Int.ofNat b.toNat)=false:=by
   unfold W8;cases z:Nat.beq b.toNat 0 with
   |false=>exact z
   |true=>exact absurd (J7.1 (Hn z)) A
  simp only[C];refine .mk (.u' ?_) B;rw[Vp,UInt64.toNat_div];show (Int.tdiv (Int.ofNat a.toNat) (Int.ofNat b.toNat))%_=Int.ofNat (a.toNat/b.toNat);have:Int.tdiv (Int.ofNat a.toNat) (Int.ofNat b.toNat)=Int.ofNat (a.toNat/b.toNat):=rfl;rw[this];exact Jq (I4 _) (by have:=Nat.div_le_self a.toNat b.toNat;simp only[Ia];omega)
 case rem =>
  obtain⟨A,B⟩:=h;have C:W8 (Int.ofNat b.toNat)=false:=by
   unfold W8;cases z:Nat.beq b.toNat 0 with
   |false=>exact z
   |true=>exact absurd (J7.1 (Hn z)) A
  simp only[C];exact .mk (.u' (by rw[UInt64.toNat_mod];rfl)) B
 case and =>
  refine .mk (.u' ?_) h;rw[Vp,UInt64.toNat_and];have:a.toNat &&& b.toNat<2^64:=Nat.and_lt_two_pow _ g;exact Jq (I4 _) Cu
 case or =>
  refine .mk (.u' ?_) h;rw[Vp,UInt64.toNat_or];have:a.toNat ||| b.toNat<2^64:=Nat.or_lt_two_pow j g
  exact Jq (I4 _) Ct
 case xor =>
  refine .mk (.u' ?_) h;rw[Vp,UInt64.toNat_xor];have:a.toNat ^^^ b.toNat<2^64:=Nat.xor_lt_two_pow j g;exact Jq (I4 _) (by show Int.ofNat (a.toNat ^^^ b.toNat)<_;simp only[Ia];omega)
 case andNot =>
  refine .mk (.u' ?_) h;have e:Nat.xor a.toNat (Nat.land a.toNat b.toNat)=(a &&& ~~~b).toNat:=by
   show a.toNat ^^^ (a.toNat &&& b.toNat)=_;rw[UInt64.toNat_and,UInt64.toNat_not];refine Nat.eq_of_testBit_eq λi=>?_
   rw[Nat.testBit_xor,Nat.testBit_and,Nat.testBit_and];have:(UInt64.size-1-b.toNat).testBit i=(decide (i<64) && !b.toNat.testBit i):=by
    have:=Nat.testBit_two_pow_sub_succ g i;rw[show UInt64.size-1-b.toNat=2^64-(b.toNat+1) from by show 18446744073709551616-1-b.toNat=_;omega,this]
   rw[this];by_cases E:i<64
   ·simp[E];cases a.toNat.testBit i<;>cases b.toNat.testBit i<;>rfl
   ·have:a.toNat.testBit i=false:=Nat.testBit_lt_two_pow (Ik j (Nat.pow_le_pow_right J J));simp[this]
  rw[e,Vp];exact Jq (I4 _) (by have:=(a &&& ~~~b).toNat_lt;simp only[Ia];omega)
 case shl=>exact .mk (.u' (jk a b.toNat)) h
 case shr=>exact .mk (.u' (jr a b.toNat)) h
 case eql=>exact .mk (.bool' (by rw[ae,zjt])) h
 case neq=>exact .mk (.bool' (by rw[ae,zjt];simp)) h
 case lss=>exact .mk (.bool' (by rw[S7,zf6])) h
 case leq=>exact .mk (.bool' (by rw[S7,kc,zq6])) h
 case gtr=>exact .mk (.bool' (by rw[S7,zf6])) h
 case geq=>exact .mk (.bool' (by rw[S7,kc,zq6])) h
def sd{op:BinOp}{t:TypeId}{a b:UInt8}(h:bbL op a b K):Qo c K (Oh p op I t (.int .u8 (Int.ofNat a.toNat)) (.int .u8 (Int.ofNat b.toNat))):=by
 have z:Vj .u8 .u8=true:=rfl;have j:=a.toNat_lt;have g:=b.toNat_lt;cases op<;>simp only[bbL,ij,dt,gf,ry]at h<;>simp only[Oh,z,qt,Wc,Yf]
 case add=>exact .mk (.b' (by rw[ja,UInt8.toNat_add];rfl)) h
 case sub =>
  refine .mk (.b' ?_) h;rw[ja,UInt8.toNat_sub];show (Int.ofNat a.toNat-Int.ofNat b.toNat)%_=((2^8-b.toNat+a.toNat)%2^8:Nat);simp only[Ia];omega
 case and =>
  refine .mk (.b' ?_) h;rw[ja,UInt8.toNat_and];have:a.toNat &&& b.toNat<2^8:=Nat.and_lt_two_pow _ g;exact Jq (I4 _) Cu
 case or =>
  refine .mk (.b' ?_) h;rw[ja,UInt8.toNat_or];have:a.toNat ||| b.toNat<2^8:=Nat.or_lt_two_pow j g
  exact Jq (I4 _) Ct
 case eql=>exact .mk (.bool' (by rw[ae,zqa])) h
 case neq=>exact .mk (.bool' (by rw[ae,zqa];simp)) h
 case lss=>exact .mk (.bool' (by rw[S7,zps])) h
 case leq=>exact .mk (.bool' (by rw[S7,kc,zpk])) h
 case gtr=>exact .mk (.bool' (by rw[S7,zps])) h
 case geq=>exact .mk (.bool' (by rw[S7,kc,zpk])) h
def AR.i'{x n:Int}(h:n=x):AR c (.i x) (.int .i64 n):=by subst h;exact .i n
def zn6{b:Int}(h:b≠0):W8 b=false:=by
 unfold W8;split
 ·rename_i n;cases g:Nat.beq n 0 with
  |false=>rfl
  |true=>exact absurd (by rw[Hn g];rfl) h
 ·rfl
def zkd{t:TypeId}{a:Int}{k:IntKind}{s:Int}(g:0≤a)(j:0≤s)(z:s≤64) :
  Oh p .shl I t (.int .i64 a) (.int k s)=some (.int .i64 (To .i64 (a*2^s.toNat)))∧Oh p .shr I t (.int .i64 a) (.int k s)=some (.int .i64 (a/2^s.toNat)):=by
 obtain⟨x,rfl⟩:=Hx g;obtain⟨y,rfl⟩:=Hx j;have hm:O0 y (IntKind.bits .i64)=y:=by
  unfold O0;rw[show Nat.ble y (IntKind.bits .i64)=true from Ho (by simp only[IntKind.bits];omega)]
 constructor
 ·show some (AV.int .i64 (To .i64 (.ofNat (Nat.mul x (Nat.pow 2 (O0 y (IntKind.bits .i64)))))))=_;rw[hm]
  congr 3
 ·show some (AV.int .i64 (.ofNat (Nat.div x (Nat.pow 2 (O0 y (IntKind.bits .i64))))))=_;rw[hm]
  congr 2
def qw{op:BinOp}{t:TypeId}{a b:Int}(h:Uj op a b K):Qo c K (Oh p op I t (.int .i64 a) (.int .i64 b)):=by
 have F:Vj .i64 .i64=true:=rfl;cases op<;>simp only[Uj]at h
 case shl =>
  obtain⟨g,A,j,B,z⟩:=h;rw[(zkd g A j).1,Vy B];exact .mk (.i _) z
 case shr =>
  obtain⟨g,A,j,z⟩:=h;rw[(zkd g A j).2];exact .mk (.i _) z
 all_goals simp only[Oh,F,qt]
 case and =>
  obtain⟨g,A,j,B,z⟩:=h;obtain⟨x,rfl⟩:=Hx g;obtain⟨y,rfl⟩:=Hx j;have C:Nat.blt x (Ta .i64)=true:=by unfold Nat.blt;exact Ho Ez
  have D:Nat.blt y (Ta .i64)=true:=by unfold Nat.blt;exact Ho Ey
  have E:x &&& y<2^63:=Nat.and_lt_two_pow _ J;show Qo c K (Wc Nat.land .i64 (.ofNat x) (.ofNat y));simp only[Wc,C,D];exact .mk (.i' (Vy ⟨Bz,Ew⟩)) z
 case or =>
  obtain⟨g,A,j,B,z⟩:=h;obtain⟨x,rfl⟩:=Hx g;obtain⟨y,rfl⟩:=Hx j;have C:Nat.blt x (Ta .i64)=true:=by unfold Nat.blt;exact Ho Ez
  have D:Nat.blt y (Ta .i64)=true:=by unfold Nat.blt;exact Ho Ey
  have E:x ||| y<2^63:=Nat.or_lt_two_pow J J
  show Qo c K (Wc Nat.lor .i64 (.ofNat x) (.ofNat y));simp only[Wc,C,D];exact .mk (.i' (Vy ⟨Bz,Ew⟩)) z
 case add=>exact .mk (.i' (Vy h.1)) h.2
 case sub=>exact .mk (.i' (Vy h.1)) h.2
 case mul=>exact .mk (.i' (Vy h.1)) h.2
 case quo=>rw[zn6 h.1];exact .mk (.i' (Vy h.2.1)) h.2.2
 case rem=>rw[zn6 h.1];exact .mk (.i _) h.2
 case eql=>exact .mk (.bool' (by rw[ae])) h
 case neq=>exact .mk (.bool' (by rw[ae];simp)) h
 case lss=>exact .mk (.bool' (by rw[S7])) h
 case leq=>exact .mk (.bool' (by rw[S7,kc])) h
 case gtr=>exact .mk (.bool' (by rw[S7])) h
 case geq=>exact .mk (.bool' (by rw[S7,kc])) h
def qr{op:BinOp}{t:TypeId}{k:IntKind}{a b:Int}(h:kkL op a b K):Qo c K (Oh p op I t (.int k a) (.int k b)):=by
 have g:Vj k k=true:=by cases k<;>rfl
 cases op<;>simp only[kkL]at h<;>simp only[Oh,g,qt]
 case eql=>exact .mk (.bool' (by rw[ae])) h
 case neq=>exact .mk (.bool' (by rw[ae];simp)) h
 case lss=>exact .mk (.bool' (by rw[S7])) h
 case leq=>exact .mk (.bool' (by rw[S7,kc])) h
 case gtr=>exact .mk (.bool' (by rw[S7])) h
 case geq=>exact .mk (.bool' (by rw[S7,kc])) h
def zuk(a b:List UInt8):(Nat.beq a.length b.length&&Nat.beq (N8 a) (N8 b))=decide (a=b):=by
 rw[I1];simp only[Hh,Ht];constructor
 ·rintro⟨g,j⟩;exact packL_inj (Hn g) (Hn j)
 ·intro h;subst h;simp
def AR.str'{l:List UInt8}{n m:Nat}(h1:n=l.length)(h2:m=N8 l):AR c (.str l) (.str n m):=by subst h1 h2;exact .str l
def rt{op:BinOp}{t:TypeId}{a b:List UInt8}(h:ssL op a b K):Qo c K (Oh p op I t (.str a.length (N8 a)) (.str b.length (N8 b))):=by
 cases op<;>simp only[ssL]at h<;>simp only[Oh,uv]
 case add =>
  have g:Nat.ble (Nat.add a.length b.length) M1=true:=Ho h.1;simp only[g];refine .mk (.str' U ?_) h.2;rw[packL_append];rfl
 case eql=>exact .mk (.bool' (zuk a b)) h
 case neq=>exact .mk (.bool' (by rw[zuk];simp)) h
def zny{op:BinOp}{t:TypeId}{a b:AV}{r:Bool}(g:Oh p op I t a b=match op with | .eql=>mc (Qn p I t a b) | .neq=>pi (Qn p I t a b)|_=>none)(h:Vz p op I t a b r K):Qo c K (Oh p op I t a b):=by
 rw[g];cases op<;>simp only[Vz]at h
 case eql=>rw[h.1];exact .mk (.bool _) h.2
 case neq=>rw[h.1];exact .mk (.bool _) h.2
end
section
noncomputable def ρA(g:Tr AV):Yn:=λt=>Mm (Mx t) g
def zo6(g:Tr AV):Tf g (ρA g):=λ_ _=>rfl
def Nt{c:Cx}{j:Ml}(g:Nl c j F){x:Lx}(h:x.ok=true):AR c (x.ev j) (x.r.ev (ρA F)):=by
 cases x with
 |t i=>exact g i
 |c v=>exact Yy c h
def zqr{c:Cx}{j:Ml}{p:Tr AV}(g:Nl c j p):∀{l:List Lx},l.all Lx.ok=true→ARs c (l.map (·.ev j)) ((c9 l).map (·.ev (ρA p)))
 |[],_=>.nil
 |x::l,h=>by
  simp only[Jx,Hh]at h;exact .cons (Nt g h.1) (zqr g h.2)
def ax:Option Lx→Bool
 |none=>true
 |some x=>x.ok
def LOp.ok:LOp→Bool
 |.move x=>x.ok
 |.pick c a b=>c.ok&&a.ok&&b.ok
 |.alloc l=>l.all LV.scal
 |.box x=>x.ok
 |.build cs ps=>cs.all LV.scal&&ps.all (·.2.2.ok)
 |.buildSl _ _ cs ps=>cs.all LV.scal&&ps.all (·.2.2.ok)
 |.load1 x=>x.ok
 |.loadN _ x=>x.ok
 |.store _ x y=>x.ok&&y.ok
 |.nilChk x=>x.ok
 |.bin _ _ _ x y=>x.ok&&y.ok
 |.un _ x=>x.ok
 |.cvInt _ x=>x.ok
 |.cvStr x=>x.ok
 |.cvSame x=>x.ok
 |.cvBytes x=>x.ok
 |.mkFunc _ a b=>a.all Lx.ok&&b.all Lx.ok
 |.mkSl _ z l c=>z.all LV.scal&&l.ok&&c.ok
 |.slStr x lo hi=>x.ok&&ax lo&&ax hi
 |.slSl _ x lo hi=>x.ok&&ax lo&&ax hi
 |.slSl3 _ x lo hi mx=>x.ok&&ax lo&&ax hi&&mx.ok
 |.fieldAddr _ x=>x.ok
 |.field _ _ _ x=>x.ok
 |.ixAddr _ x i=>x.ok&&i.ok
 |.ixStr x i=>x.ok&&i.ok
 |.extract _ x=>x.ok
 |.lenStr x=>x.ok
 |.lenSl x=>x.ok
 |.maxi _ x y=>x.ok&&y.ok
 |.max3 _ x y z=>x.ok&&y.ok&&z.ok
 |.ixAddrArr _ _ x i=>x.ok&&i.ok
 |.ixArr _ _ _ x i=>x.ok&&i.ok
 |.lenArr _ x=>x.ok
 |.appZ _ z s x=>z.all LV.scal&&s.ok&&x.ok
 |.appG _ s x=>s.ok&&x.ok
 |.copy _ d x=>d.ok&&x.ok
 |.clear _ z x=>z.all LV.scal&&x.ok
 |.mkMap0=>true
 |.mkMap1 x=>x.ok
 |.lookup _ z _ x i=>z.cst&&x.ok&&i.ok
 |.mapUpd _ m k v=>m.ok&&k.ok&&v.ok
 |.lenMap x=>x.ok
 |.slArr _ _ x lo hi=>x.ok&&ax lo&&ax hi
 |.callV f args=>f.ok&&args.all Lx.ok
def Qy(P:Program)(c:Cx)(G:Mh)(K:LV→Mh→Prop):OR→Prop
 |.no=>False
 |.val A B=>∃p v z,p.H=B∧HSim p z∧Step c G p z∧AR p v A∧K v z
 |.call C j=>∃t g,q9 c t C∧ARs c g j∧Qq P t g G K
section res
variable {P : Program} {c : Cx} {G : Mh} {K : LV → Mh → Prop}
def Qy.same(hs:HSim c G){v:LV}{a:AV}(h:AR c v a)(k:K v G):Qy P c G K (.val a c.H):=⟨c,v,G,rfl,hs,.refl c G,h,k⟩
def Qy.ret(hs:HSim c G){r:Option AV}(h:Qo c (λv=>K v G) r):Qy P c G K (ret1 c.H r):=by
 obtain⟨v,a,rfl,h1,h2⟩:=h;exact .same hs h1 h2
def zx(c:Cx)(g:List AV) :
  ∃H',newObj c.H g=some (c.H.next,H')∧H'.next=c.H.next+1∧(∀o,o<c.H.next→H'.get o=c.H.get o)∧H'.get c.H.next=some (.cells (Ou g 0 .e) g.length 0 false) :=
 ⟨_,rfl,rfl,λ_ j=>Heap.get_push_ne _ _ j,Heap.get_push_same _ _⟩
def zit(g:HSim c G){l:List LV}(h:ARs c l H)(k:K (.ptr G.length 0) (G++[.cells l 0])):Qy P c G K (Us c.H H):=by
 obtain⟨p,B,F,z,C⟩:=zx c H;unfold Us;rw[B];have j:CxLe c ⟨c.hd++[(0,.ptr c.H.next 0 0)],c.Fz,p⟩:=⟨λI k x e=>⟨k,x,Ce,Hm _,λ_=>rfl,λ_=>rfl⟩,λo A=>⟨A,z o (g.fz o A)⟩⟩;obtain⟨D,E,_⟩:=g.push (H':=p) (x:=.ptr c.H.next 0 0) (ob:=.cells l 0) J z (λo e=>by cases e;omega)
  ⟨rfl,c.H.next,_,H,rfl,by rw[h.length];exact C,by rw[h.length];exact jm H,h.mono j⟩
 exact⟨_,.ptr G.length 0,_,rfl,D,E,.ptr (by rw[←g.len];exact Iq),k⟩
def cy(j:HSim c G){l:List LV}{len esz:Nat}{room:Option Nat}(h:ARs c l H)(z:l.length=len*esz)(C:∀r,room=some r→r=len)(k:K (.dy G.length 0) (G++[.dyn l len esz 0 0])) :
  Qy P c G K (match newObj c.H H with
   |some (o,H')=>.val (.sl o 0 0 len esz room) H'
   |none=>.no):=by
 obtain⟨H',D,L,A,E⟩:=zx c H;rw[D];have p:CxLe c ⟨c.hd++[(0,.sl c.H.next 0 0 len esz room)],c.Fz,H'⟩:=⟨λM k x e=>⟨k,x,Ce,Hm _,λ_=>rfl,λ_=>rfl⟩,λo B=>⟨B,A o (j.fz o B)⟩⟩;have g:H.length=len*esz:=by rw[←h.length];exact z
 obtain⟨F,I,_⟩:=j.push (H':=H') (x:=.sl c.H.next 0 0 len esz room) (ob:=.dyn l len esz 0 0) J A (λo e=>by cases e;omega)
  ⟨rfl,z,.inr ⟨c.H.next,0,room,_,H.length,H,rfl,E,J,by rw[←g];exact jm H,h.mono p,λr e=>by rw[C r e];exact⟨g,Hm _⟩,λ_=>g⟩⟩
 exact⟨_,.dy G.length 0,_,rfl,F,I,.dy (h:=.sl c.H.next 0 0 len esz room) (by rw[←j.len];exact Iq) (Hm _) (λ_=>rfl) rfl,k⟩
def zjr(z:HSim c G){o st:Nat}{l:List LV}(A:G[g]?=some (.cells l st))(e:c.hd[g]?=some (0,.ptr o 0 0)) :
  ∃t j,c.H.get o=some (.cells t l.length 0 false)∧Rm t 0 l.length=some j∧ARs c l j:=by
 obtain⟨_,E,t,j,p,B,C,D⟩:=z.obj g _ _ _ A e;injection p with p
 subst p;exact⟨t,j,B,C,D⟩
def Z4(E:HSim c G){p k o v len esz st:Nat}{room:Option Nat}{l:List LV}(F:G[p]?=some (.dyn l len esz C st))(e:c.hd[p]?=some (k,.sl o v 0 g j room)) :
  k=C∧l.length=len*esz∧g=len∧j=esz∧∃t z A,c.H.get o=some (.cells t z v false)∧len*esz≤z∧Rm t 0 (len*esz)=some A∧ARs c l A ∧
   (∀r,room=some r→z=r*esz∧len≤r)∧(room=none→z=len*esz):=by
 obtain⟨H,I,B⟩:=E.obj p _ _ _ F e;rcases B with ⟨B,_⟩|⟨o',v',D,t,z,A,L,M,N,O,Q,R,S⟩
 ·cases B
 ·injection L with T V e3 X Y Z
  subst T V X Y Z;exact⟨H,I,rfl,rfl,t,z,A,M,N,O,Q,R,S⟩
def zkq(A:HSim c G){x:LV}{a:AV}{n:Nat}{K:List LV→Prop}(B:AR c x a)(h:Ui G x n K):∃o v i j l,a=.ptr o v i∧Pa c.H o v i n=some j∧ARs c l j∧K l:=by
 unfold Ui at h;split at h
 ·rename_i gg i;split at h
  ·rename_i l st p;obtain⟨z,g⟩:=h;cases B with
   | @ptr _ _ o e =>
    obtain⟨t,j,M,C,D⟩:=zjr A p e;exact⟨o,0,i,_,_,rfl,Tb M C (Hm _) z,(D.drop i).take n,g⟩
  ·exact h.elim
 ·rename_i gg k i;split at h
  ·rename_i l len N O st p;obtain⟨Q,z,g⟩:=h;cases B with
   | @dptr _ _ _ k' o v gA hh e hk R =>
    have S:=(A.obj gg _ _ _ p e).1;obtain⟨T,H,I,E,F⟩:=R J;subst F T;obtain⟨_,r1,_,_,t,L,j,C,D,V,X,_⟩:=Z4 A p e;exact⟨o,v,gA,_,_,rfl,Tb C V D J,(X.drop gA).take n,g⟩
  ·exact h.elim
 ·rename_i l i;obtain⟨z,g⟩:=h;cases B with
  |cptr hf Y Z=>exact⟨_,_,_,_,_,rfl,zio Y z,(Z.drop i).take n,g⟩
 ·exact h.elim
def zq4(A:HSim c G){x:LV}{a:AV}{K:LV→Prop}(B:AR c x a)(h:Vc G x K):∃o v i w b,a=.ptr o v i∧Pa c.H o v i 1=some [b]∧AR c w b∧K w:=by
 have g:∀{l:List LV} {i:Nat} {v:LV},l[i]?=some v→i+1≤l.length∧(l.drop i).take 1=[v]:=λ{l i v} e=>by
  obtain⟨j,p⟩:=Hf.1 e;refine⟨j,?_⟩;rw[If j,p];simp
 have z:Ui G x 1 (λl=>∃v,l=[v]∧K v):=by
  unfold Vc at h;unfold Ui;split at h
  ·split at h
   ·obtain⟨v,j,p⟩:=h;exact⟨(g j).1,v,(g j).2,p⟩
   ·exact h.elim
  ·split at h
   ·obtain⟨C,v,j,p⟩:=h;exact⟨C,(g j).1,v,(g j).2,p⟩
   ·exact h.elim
  ·obtain⟨v,j,p⟩:=h;exact⟨(g j).1,v,(g j).2,p⟩
  ·exact h.elim
 obtain⟨o,v,i,L,l,D,E,F,w,rfl,H⟩:=zkq A B z;cases F with
 |cons e I=>cases I;exact⟨o,v,i,w,_,D,E,e,H⟩
def zig{o v i:Nat}{t:Tr AV}{l r:List AV}(p:A.get o=some (.cells t j v false))(_:Rm t 0 g=some l)(C:g≤j)(z:i+r.length≤g) :
  Ty A o v i r=some (A.put o (.cells (Ou r i t) j v false)):=by
 unfold Ty;rw[p];have B:Nat.ble (Nat.add i r.length) j=true:=Ho (by show i+r.length≤j;omega);simp only[Ii,B]
def zqb{g:Type}:∀{l:List g} {p:Nat} {a:g},l[p]?=some a→l.set p a=l
 |[],_,_,h=>B8
 |x::l,0,a,h=>by simp at h;subst h;rfl
 |x::l,p+1,a,h=>by simp at h;simp[zqb h]
def wl(B:HSim c G){x:LV}{a:AV}{l:List LV}{K:Mh→Prop}(hx:AR c x a)(N:ARs c l H)(h:Tv G x l K) :
  ∃o v i H' O Q,a=.ptr o v i∧Ty c.H o v i H=some H'∧O.H=H'∧HSim O Q∧Step c G O Q∧K Q:=by
 have gD:=N.length;unfold Tv at h;split at h
 ·rename_i gE i;split at h
  ·rename_i F st g;obtain⟨I,R⟩:=h;cases hx with
   | @ptr _ _ o e =>
    obtain⟨t,C,r2,L,M⟩:=zjr B g e;have hw:=zig (i:=i) (r:=H) r2 L (Hm _) J;obtain⟨S,T,_⟩:=B.upd (k':=0) (x':=.ptr o 0 0) (ob':=.cells (M5 F i l) (st+1)) (H':=c.H.put o (.cells (Ou H i t) F.length 0 false)) g rfl e (Hm _)
     (λV _ D=>Heap.get_put_ne _ _ (λq=>D D0)) (λV X=>by cases X;exact⟨.inl rfl,B.lt o ⟨gE,_,_,_,g,rfl,e,rfl⟩⟩) (Hm _) (λ_=>rfl) (λ_=>rfl) (.inl (Iv _))
     (λE=>⟨rfl,o,_,Yi C i H,rfl,by rw[z9w I];exact Heap.get_put_same _ _ _,by rw[z9w I];exact zef L J,(M.lay N i).mono E⟩)
    exact⟨o,0,i,_,_,_,rfl,hw,rfl,S,T,R⟩
  ·exact h.elim
 ·rename_i gE k i;split at h
  ·rename_i F len gF Y st g;obtain⟨gG,I,R⟩:=h;cases hx with
   | @dptr _ _ _ k' o v gC hh e hk ha =>
    have gH:=(B.obj gE _ _ _ g e).1;obtain⟨hj,j,p,z,Z⟩:=ha J;subst Z hj;obtain⟨gg,r1,gA,gB,t,A,C,L,M,r5,r6,r7,r8⟩:=Z4 B g e;subst gA gB;have hw:=zig (i:=gC) (r:=H) L r5 M J;obtain⟨S,T,_⟩:=B.upd (k':=k') (x':=.sl o v 0 j p z) (ob':=.dyn (M5 F gC l) j p Y (st+1)) (H':=c.H.put o (.cells (Ou H gC t) A v false)) g rfl e (Hm _)
     (λV _ D=>Heap.get_put_ne _ _ (λq=>D D0)) (λV X=>by cases X;exact⟨.inl rfl,B.lt _ ⟨gE,_,_,_,g,rfl,e,rfl⟩⟩) (Hm _) (λ_=>rfl) (λ_=>rfl) (.inl (Iv _))
     (λE=>⟨gg,by rw[z9w I];exact r1,.inr ⟨o,v,z,_,A,Yi C gC H,rfl,Heap.get_put_same _ _ _,M,zef r5 J,(r6.lay N gC).mono E,r7,r8⟩⟩)
    exact⟨o,v,gC,_,_,_,rfl,hw,rfl,S,T,R⟩
  ·exact h.elim
 ·exact h.elim
def fb(H:HSim c G){x:LV}{a:AV}{K:Nat→Prop}(z:AR c x a)(h:lenL G x K):∃n,K n∧(a=.nilSl∧n=0∨a=.emp∧n=0∨∃o v i esz room,a=.sl o v i n esz room):=by
 unfold lenL at h;split at h
 ·cases z;exact⟨0,h,.inl ⟨rfl,rfl⟩⟩
 ·rename_i O k;split at h
  ·rename_i l len esz B st C;obtain⟨D,h⟩:=h;cases z with
   | @dy _ _ Q R _ e S E _ =>
    obtain⟨T,V,g⟩:=H.obj O _ _ _ C e;have j:=E J;rcases g with ⟨g,A⟩|⟨o,v,room,t,I,X,g,_⟩
    ·exact⟨len,h,.inl ⟨j.trans g,A⟩⟩
    ·exact⟨len,h,.inr (.inr ⟨_,_,_,_,_,j.trans g⟩)⟩
  ·exact h.elim
 ·rename_i O k Y len;split at h
  ·rename_i l L esz B st C;obtain⟨D,h⟩:=h;cases z with
   | @vw _ _ _ _ Q R _ e S E _ _ =>
    obtain⟨T,V,g⟩:=H.obj O _ _ _ C e;rcases E J with ⟨A,p|p⟩|⟨o,v,M,N,room,F,_,p,_⟩
    ·exact⟨len,h,.inl ⟨p,A⟩⟩
    ·exact⟨len,h,.inr (.inl ⟨p.1,A⟩)⟩
    ·exact⟨len,h,.inr (.inr ⟨_,_,_,_,_,p⟩)⟩
  ·exact h.elim
 ·cases z with
  |lst=>exact⟨_,h,.inr (.inr ⟨_,_,_,_,_,rfl⟩)⟩
  |lstNil=>exact⟨0,h,.inl ⟨rfl,rfl⟩⟩
  |lstEmp=>exact⟨0,h,.inr (.inl ⟨rfl,rfl⟩)⟩
 ·exact h.elim
def znb(l:List UInt8)(c:Cx):ARs c (l.map LV.b) ((T5 l.length (N8 l)).map λ(b:Nat)=>AV.int .u8 (Int.ofNat b)):=by
 rw[unpack_pack]
 induction l with
 |nil=>exact .nil
 |cons b l g=>exact .cons (.b b) g
def zui(O:HSim c G){x:LV}{a:AV}{K:Nat→List LV→Prop}(C:AR c x a)(h:Re G g x K):∃n l B,W6 c.H g a=some (n,B)∧ARs c l B∧l.length=n*g∧K n l:=by
 have z:Nat.beq g g=true:=Ii _;unfold Re at h;split at h
 ·cases C;exact⟨0,[],[],rfl,.nil,U,h⟩
 ·rename_i gB k;split at h
  ·rename_i l len p Q st N;obtain⟨R,rfl,h⟩:=h;cases C with
   | @dy _ _ k' hh _ e hk S _ =>
    obtain⟨r0,T,D⟩:=O.obj gB _ _ _ N e;have E:=S J;rcases D with ⟨D,A⟩|⟨o,v,F,t,H,B,D,A,I,r5,Y,_⟩
    ·subst A;have:l=[]:=Ig (by simpa using T);subst this;exact⟨0,[],[],by rw[E,D];rfl,.nil,U,h⟩
    ·refine⟨len,l,B,?_,Y,T,h⟩;have L:=Tb (i:=0) (n:=len*p) A r5 I J;have V:B.length=len*p:=by rw[←Y.length];exact T
     rw[E,D];simp only[W6,z];rw[show Nat.mul len p=len*p from rfl,L];simp[Hz,V]
  ·exact h.elim
 ·rename_i gB k Z len;split at h
  ·rename_i l gg p Q st N;obtain⟨R,rfl,h1,h⟩:=h;cases C with
   | @vw _ _ _ _ k' hh _ e hk S _ _ =>
    have gC:=(O.obj gB _ _ _ N e).1;rcases S J with ⟨A,I⟩|⟨o,v,gA,j,F,X,A,I,_⟩
    ·subst A;refine⟨0,_,[],?_,by simpa using (ARs.nil (c:=c)),U,h⟩;rcases I with rfl|⟨rfl,_⟩<;>rfl
    ·subst A;obtain⟨_,q1,q2,q3,t,H,B,q4,q5,q6,q7,_⟩:=Z4 O N e;subst q2 q3;have L:=Tb (i:=Z*j) (n:=len*j) q4 q6 q5 J;refine⟨len,_,_,?_,(q7.drop (Z*j)).take (len*j),Ab,h⟩;rw[I];simp only[W6,z];rw[show Nat.mul len j=len*j from rfl,L]
  ·exact h.elim
 ·rename_i l len p;obtain⟨rfl,h⟩:=h;cases C with
  |lst hf gD M L hl =>
   refine⟨len,l,_,?_,hl,M,h⟩;simp only[W6,z];rw[show Nat.mul len p=len*p from rfl,L]
  |lstNil=>exact⟨0,[],[],rfl,.nil,U,h⟩
  |lstEmp=>exact⟨0,[],[],rfl,.nil,U,h⟩
 ·rename_i l;obtain⟨rfl,h⟩:=h;cases C;refine⟨l.length,_,_,?_,znb l c,U,h⟩;simp[W6]
 ·exact h.elim
end res
end
section
section res
variable {P : Program} {c : Cx} {G : Mh} {K : LV → Mh → Prop}
def zrr(j:HSim c G)(k:K (.dy G.length 0) (G++[.dyn [] 0 g 0 0])):Qy P c G K (.val .nilSl c.H):=by
 obtain⟨p,z,_⟩:=j.push (H':=c.H) (x:=.nilSl) (ob:=.dyn [] 0 g 0 0) (Hm _) (λ_ _=>rfl) (λo e=>Ar) ⟨rfl,U,.inl ⟨rfl,rfl⟩⟩;exact⟨⟨c.hd++[(0,.nilSl)],c.Fz,c.H⟩,.dy G.length 0,_,rfl,p,z,.dy (h:=.nilSl) (by rw[←j.len];exact Iq) (Hm _) (λ_=>rfl) rfl,k⟩
def zpt(hs:HSim c G){p k:Nat}{a:AV}{n:Nat}(ha:AR c (.dy p k) a)(hn:ARs c Z H)(hl:Z.length=n*g)(h:O9 G g (.dy p k) n Z K):Qy P c G K (Ub c.H g a n H):=by
 have O:=hn.length;unfold O9 at h;dsimp only at h;split at h
 ·rename_i l len j X st hg;obtain⟨jg,⟨rfl,gC⟩,gD,h⟩:=h;have gO:p<c.hd.length:=by rw[hs.len];exact (Hf.1 hg).1
  cases ha with
  | @dy _ _ k' T _ e hk gP gQ =>
   obtain⟨r0,r1,A⟩:=hs.obj p _ _ _ hg e;have Y:=gP J;have E:∀{H':Heap} {x':AV},c.H.next≤H'.next→(∀o,o<c.H.next→Nf T≠some o→H'.get o=c.H.get o)→(∀o,Nf x'=some o→(Nf T=some o∨c.H.next≤o)∧o<H'.next)→ce x'=true→V7 T=false →
     (CxLe c ⟨c.hd.set p (k'+1,x'),c.Fz,H'⟩→kr ⟨c.hd.set p (k'+1,x'),c.Fz,H'⟩ (k'+1) x' (.dyn (l++Z) (len+n) j (X+1) (st+1)))→Qy P c G K (.val x' H'):=by
    intro H' x' h1 h2 h3 h4 h5 h6;obtain⟨q1,q2,_⟩:=hs.upd (k':=k'+1) (x':=x') (ob':=.dyn (l++Z) (len+n) j (X+1) (st+1)) (H':=H') hg rfl e h1 h2 h3 (Kz _) (λq=>J) (λq=>by rw[h5]at q;cases q) (.inl (Iv _)) h6;exact⟨_,.dy p (X+1),_,rfl,q1,q2,.dy (k':=k'+1) (h:=x') (by dsimp only;rw[Hi gO]) J (λ_=>rfl) h4,h⟩
   have C:(l++Z).length=(len+n)*j:=by rw[Hv,r1,hl,Ih]
   unfold Ub;cases hb:Nat.beq n 0 with
   |true =>
    have gE:=Hn hb;subst gE;have gF:Z=[]:=Ig (by simpa using hl);subst gF;have gG:V7 T=false:=by
     rcases A with ⟨A,_⟩|⟨o,v,D,t,z,F,A,_⟩<;>rw[A]<;>rfl
    have gR:ce T=true:=by rw[←Y];exact gQ
    have Q:Qy P c G K (.val T c.H):=by
     refine E (Hm _) (λ_ _ _=>rfl) (λo N=>⟨.inl N,hs.lt o ⟨p,_,_,_,hg,rfl,e,N⟩⟩) gR gG (λB=>⟨J,C,?_⟩);simp only[Ip,Kq];rcases A with ⟨A,I⟩|⟨o,v,D,t,z,F,A,I,r4,r5,r6,r7,r8⟩
     ·exact .inl ⟨A,I⟩
     ·exact .inr ⟨o,v,D,t,z,F,A,I,r4,r5,r6.mono B,r7,r8⟩
    rw[Y];rcases A with ⟨A,I⟩|⟨o,v,D,t,z,F,A,I,r4,r5,r6,r7,r8⟩
    ·rw[A]at Q ⊢;exact Q
    ·rw[A]at Q ⊢;exact Q
   |false =>
    have gE:n≠0:=λq=>by rw[q]at hb;cases hb
    rw[Y];rcases A with ⟨A,I⟩|⟨o,v,D,t,z,F,A,I,r4,r5,r6,r7,r8⟩
    ·
     subst I;have gg:l=[]:=Ig Dm;subst gg;rw[A];dsimp only[Wp];obtain⟨H',h1,h2,h3,h4⟩:=zx c H;rw[h1];dsimp only;refine E J (λo ho _=>h3 o ho) (λo N=>by cases N;exact⟨.inr (Hm _),J⟩) rfl Eg (λB=>⟨J,C,.inr ⟨c.H.next,0,none,_,H.length,H,?_,h4,?_,?_,hn.mono B,λr q=>Cv,λ_=>?_⟩⟩)
     ·simp
     ·rw[Is];omega
     ·rw[Is,←hl,O];exact jm H
     ·rw[Is];omega
    ·have gH:o<c.H.next:=hs.lt o ⟨p,_,_,_,hg,rfl,e,Eg⟩;have gS:F.length=len*j:=Dx
     rw[A];have gT:(Nat.beq j j&&Nat.ble len M1)=true:=by rw[Ii,show Nat.ble len M1=true from Ho gD];rfl
     dsimp only;rw[gT];dsimp only;have R:Nf T=some o:=Eg
     have gA:V7 T=false:=Eg
     have V:Rm (Ou H (len*j) t) 0 ((len+n)*j)=some (F++H):=by
      have:=znc (r:=H) r5
      rwa [show len*j+H.length=(len+n)*j from by rw[←O,hl,Ih]]at this
     cases D with
     |some r =>
      obtain⟨S,jz⟩:=r7 r rfl;dsimp only;cases gI:Nat.ble (Nat.add len n) r with
      |true =>
       have L:len+n≤r:=Hw gI;have hm:(len+n)*j≤r*j:=Hy _ L;have gK:(len+n)*j=len*j+n*j:=Ih _ _ _;have hw:Ty c.H o v (Nat.add 0 (Nat.mul len j)) H=some (c.H.put o (.cells (Ou H (len*j) t) z v false)):=by
        unfold Ty;rw[I];have e1:Nat.add 0 (Nat.mul len j)=len*j:=Is _;have gL:Nat.ble (Nat.add (len*j) H.length) z=true:=Ho (by show len*j+H.length≤z;omega);rw[e1];simp only[Ii,gL]
       dsimp only;rw[hw];dsimp only;refine E (by exact Hm _) (λo' _ gB=>Heap.get_put_ne _ _ (λq=>gB (by rw[q];exact R))) (λo' N=>by cases N;exact⟨.inl R,gH⟩) rfl gA (λB=>⟨J,C,.inr ⟨o,v,some r,_,z,_,rfl,Heap.get_put_same _ _ _,J,V,(r6.append hn).mono B,λr' q=>by cases q;exact⟨S,L⟩,λq=>Cv⟩⟩)
      |false =>
       have hr:=Tb (i:=0) (n:=len*j) I r5 r4 J;dsimp only;rw[show Nat.mul len j=len*j from rfl,hr];dsimp only[Wp];obtain⟨H',h1,h2,h3,h4⟩:=zx c ((F.drop 0).take (len*j)++H);rw[h1];dsimp only;have gV:(F.drop 0).take (len*j)=F:=by rw[Jd,Hz J]
       rw[gV]at h4;have M:(F++H).length=(len+n)*j:=by rw[Hv,gS,←O,hl,Ih]
       refine E J (λo' gZ _=>h3 o' gZ) (λo' N=>by cases N;exact⟨.inr (Hm _),J⟩) rfl gA (λB=>⟨J,C,.inr ⟨c.H.next,0,none,_,_,F++H,rfl,h4,J,?_,(r6.append hn).mono B,λr' q=>Cv,λ_=>M⟩⟩);rw[←M];exact jm _
     |none =>
      have S:=r8 rfl;dsimp only;rw[I];dsimp only;have gK:(len+n)*j=len*j+n*j:=Ih _ _ _;have g8:0<n*j:=Nat.mul_pos J gC;have g9:Nat.ble (Nat.add 0 (Nat.mul (Nat.add len n) j)) z=false:=by
       cases hq:Nat.ble (Nat.add 0 (Nat.mul (Nat.add len n) j)) z with
       |false=>rfl
       |true =>
        have:0+(len+n)*j≤z:=Hw hq;omega
      have gM:Nat.beq (Nat.mul len j) z=true:=by rw[S];exact Ii _
      rw[Ii,g9,gM,S];dsimp only;have M:Nat.add (len*j) H.length=(len+n)*j:=by show len*j+H.length=_;rw[←O,hl,gK]
      refine E (by exact Hm _) (λo' _ gB=>Heap.get_put_ne _ _ (λq=>gB (by rw[q];exact R))) (λo' N=>by cases N;exact⟨.inl R,gH⟩) rfl gA (λB=>⟨J,C,.inr ⟨o,v+1,none,_,_,_,rfl,Heap.get_put_same _ _ _,by rw[M];exact Hm _,V,(r6.append hn).mono B,λr' q=>Cv,λ_=>M⟩⟩)
 ·exact h.elim
def zuv(B:HSim c G){s:LV}{a:AV}{n:Nat}(ha:AR c s a)(Q:ARs c Z H)(R:Z.length=n*g)(h:O9 G g s n Z K):Qy P c G K (Ub c.H g a n H):=by
 have gQ:=Q.length;unfold O9 at h;split at h
 ·
  cases ha;unfold Ub;cases T:Nat.beq n 0 with
  |true =>
   have:=Hn T;subst this;have:Z=[]:=Ig (by simpa using R);subst this;exact zrr B h
  |false =>
   dsimp only[Wp];exact cy B Q R (λr e=>Ar) h
 ·rename_i p k;exact zpt B ha Q R (by unfold O9;exact h)
 ·rename_i p k lo len;split at h
  ·rename_i l gE V gL st S;obtain⟨gA,⟨rfl,rfl,gM⟩,C,h⟩:=h;have F:Nat.beq n 0=false:=by
    cases T:Nat.beq n 0 with
    |false=>rfl
    |true=>have:=Hn T;omega
   cases ha with
   | @vw _ _ _ _ k' hh _ e hk X gF hz =>
    split at h
    case isFalse Y =>
     obtain⟨gB,gG,h1,h2⟩:=h;subst gB;have gH:=(B.obj p _ _ _ S e).1;have M:=hz J rfl;rcases X J with ⟨I,L⟩|⟨o,v,z,j,D,A,I,L,r9⟩
     ·subst I;rcases L with rfl|⟨_,r5⟩
      ·have gB:l=[]:=Ig (by have:=(B.obj p _ _ _ S e).2.1;simpa using this);subst gB;unfold Ub;rw[F];dsimp only[Wp];refine cy B Q R (λr e=>Ar) ?_;simpa using h2
      ·exact absurd rfl r5
     ·have e2:=e;rw[I]at e2;obtain⟨_,w1,w2,w3,t,E,l',w4,w5,w6,w7,_⟩:=Z4 B S e2;subst w2 w3;rw[I,L]at M;dsimp only[Vn]at M;by_cases gI:A=D
      ·refine zpt B (p:=p) (k:=k) (.dy e hk (λ_=>by rw[L,I,gI,Kc]) gF) Q R ?_;unfold O9;dsimp only;rw[S];exact⟨gA,⟨rfl,gG⟩,C,h1⟩
      ·rcases M with M|⟨r,rfl,hr⟩
       ·exact absurd M gI
       have N:(Nat.beq j j&&Nat.ble z M1)=true:=by rw[Ii,show Nat.ble z M1=true from Ho C];rfl
       have gC:Nat.ble (Nat.add z n) r=false:=by
        cases hq:Nat.ble (Nat.add z n) r with
        |false=>rfl
        |true=>have:z+n≤r:=Hw hq;omega
       rw[L];unfold Ub;rw[F];dsimp only;rw[N];dsimp only;rw[gC];dsimp only;have gD:=Tb (i:=0) (n:=z*j) w4 w6 w5 J;rw[show Nat.mul z j=z*j from rfl,show 0*j=0 from Kc _,gD];dsimp only[Wp];have O:=Ih z n j;have gO:l.take (z*j)=l:=Hz J;refine cy B ((w7.take _).append Q) (by rw[Hv,H4,R];show min (z*j) l.length+n*j=(z+n)*j;omega) (λr e=>Ar) ?_;rw[gO];exact h2
    case isTrue Y =>
     obtain⟨h1,h2⟩:=h;have gH:=(B.obj p _ _ _ S e).1;have O:(len+n)*V=len*V+n*V:=Ih _ _ _;rcases X J with ⟨I,L⟩|⟨o,v,z,j,D,A,I,L,r9⟩
     ·subst I;rcases L with rfl|⟨_,r5⟩
      ·unfold Ub;rw[F];dsimp only[Wp];refine cy B Q R (λr e=>Ar) ?_;simpa using h2
      ·exact absurd rfl r5
     ·have e2:=e;rw[I]at e2;obtain⟨_,w1,w2,w3,t,E,l',w4,w5,w6,w7,_⟩:=Z4 B S e2;subst w2 w3;rw[L];have hw:Tv G (.dptr p k (len*j)) Z (λG'=>K (.vw p k 0 (len+n)) G'):=by
       unfold Tv;dsimp only;rw[S];exact⟨gA,by rw[R,←O];exact Y,h1⟩
      obtain⟨o2,v2,i2,H',c',G',u1,u2,u3,u4,u5,u6⟩:=wl B (a:=.ptr o v (len*j)) (.dptr e hk (λ_=>⟨rfl,_,j,D,I⟩)) Q hw;cases u1;have gg:(∀r,A=some r→len+n≤r)→Qy P c G K (.val (.sl o v (0*j) (len+n) j A) H'):=λhr=>by
       refine⟨c',.vw p k 0 (len+n),G',u3,u4,u5,AR.mono u5.le (.vw e hk (λ_=>.inr ⟨o,v,_,j,D,A,I,rfl,hr⟩) rfl (λq=>by have:=hz q;rw[L]at this;exact this)),u6⟩
      have N:(Nat.beq j j&&Nat.ble len M1)=true:=Dy
      have gK:Nat.add (0*j) (Nat.mul len j)=len*j:=by show 0*j+len*j=_;omega
      have gP:len*j≤z*j:=by rw[←w1];omega
      unfold Ub;rw[F];dsimp only;rw[N];dsimp only;cases A with
      |some r =>
       dsimp only;cases T:Nat.ble (Nat.add len n) r with
       |true =>
        dsimp only;rw[gK,u2];exact gg (λr' e'=>by cases e';exact Hw T)
       |false =>
        dsimp only;have hr:=Tb (i:=0) (n:=len*j) w4 w6 w5 J;rw[show Nat.mul len j=len*j from rfl,show 0*j=0 from Kc _,hr];dsimp only[Wp];refine cy B ((w7.take _).append Q) Cy (λr e=>Ar) h2
      |none =>
       dsimp only;rw[w4];dsimp only;rw[Ii,gK];have T:Nat.ble (Nat.add (0*j) (Nat.mul (Nat.add len n) j)) E=true:=Ho (by show 0*j+(len+n)*j≤E;omega);rw[T];dsimp only;rw[u2];exact gg (λr' e'=>by cases e')
  ·exact h.elim
 ·rename_i p k len;split at h
  ·rename_i l gE V gL st S;obtain⟨gA,⟨rfl,gM⟩,C,gR,h⟩:=h;have F:Nat.beq n 0=false:=by
    cases T:Nat.beq n 0 with
    |false=>rfl
    |true=>have:=Hn T;omega
   cases ha with
   | @vf _ _ _ k' hh _ e hk X gF =>
    have gH:=(B.obj p _ _ _ S e).1;obtain⟨o,v,z,j,D,I,L⟩:=X J;have e2:=e;rw[I]at e2;obtain⟨_,w1,w2,w3,t,E,l',w4,w5,w6,w7,_⟩:=Z4 B S e2;subst w2 w3;have N:(Nat.beq j j&&Nat.ble len M1)=true:=Dy
    have gC:Nat.ble (Nat.add len n) len=false:=by
     cases hq:Nat.ble (Nat.add len n) len with
     |false=>rfl
     |true=>have:len+n≤len:=Hw hq;omega
    rw[L];unfold Ub;rw[F];dsimp only;rw[N];dsimp only;rw[gC];dsimp only;have gD:=Tb (i:=0) (n:=len*j) w4 w6 w5 J;rw[show Nat.mul len j=len*j from rfl,gD];dsimp only[Wp];have O:=Ih len n j;refine cy B ((w7.take _).append Q) Cy (λr e=>Ar) h
  ·exact h.elim
 ·exact h.elim
end res
end
section
section res
variable {P : Program} {c : Cx} {G : Mh} {K : LV → Mh → Prop}
def Y4{v:LV}{a:AV}(g:v.scal=true)(h:AR c v a):a=toA v:=by
 cases v<;>first|(cases g;done)|(cases h;rfl)
def toAs_scal:∀{l:List LV} {r:List AV},l.all LV.scal=true→ARs c l r→r=toAs l
 |[],_,_,.nil=>rfl
 |v::l,_,h,.cons e g=>by
  simp only[Jx,Hh]at h;rw[toAs,←Y4 h.1 e,←toAs_scal h.2 g]
def cg{op:BinOp}{t:TypeId}{x y:LV}{a b:AV}{K:LV→Prop}(p:AR c x a)(z:AR c y b)(h:Ra P op I t x y K):Qo c K (Oh P op I t a b):=by
 unfold Ra at h;split at h
 ·cases p;cases z;exact qq h
 ·cases p;cases z;exact qw h
 ·cases p;cases z;exact sd h
 ·rename_i u v;cases p;cases z;cases op<;>try exact h.elim
  ·simp only[Oh];rw[h.1];exact .mk (.bool _) h.2
  ·simp only[Oh];rw[h.1];exact .mk (.bool _) h.2
 ·rename_i u s;cases p;cases z;cases op<;>try exact h.elim
  ·obtain⟨g,j⟩:=h;obtain⟨n,rfl⟩:=Hx g;exact .mk (.u' (jk u n)) j
  ·obtain⟨g,j⟩:=h;obtain⟨n,rfl⟩:=Hx g;exact .mk (.u' (jr u n)) j
 ·rename_i u s;cases p;cases z;cases op<;>try exact h.elim
  ·obtain⟨g,j,E,B⟩:=h;rw[(zkd (s:=Int.ofNat s.toNat) g (I4 _) (by show (s.toNat:Int)≤64;omega)).1];exact .mk (.i' (Vy E)) B
  ·obtain⟨g,j,B⟩:=h;rw[(zkd (s:=Int.ofNat s.toNat) g (I4 _) (by show (s.toNat:Int)≤64;omega)).2];exact .mk (.i _) B
 ·obtain⟨rfl,h⟩:=h;cases p;cases z;exact qr h
 ·cases p;cases z;exact rt h
 ·cases p;cases z;exact zny Cc h
 ·cases p;cases z;have:∀o v i,Qn P I t (.ptr o v i) .nilPtr=Qn P I t (.ptr 0 0 0) .nilPtr:=λo v i=>by
   unfold Qn uk wn Yh;dsimp only;cases P.underlying t with
   |none=>rfl
   |some d=>cases d<;>rfl
  refine zny (r:=false) Cc ?_;cases op<;>simp only[Vz]at h ⊢<;>(rw[this];exact h)
 ·cases p;cases z;exact zny Cc h
 ·cases z;obtain⟨g,j⟩:=h;have C:Qn P I t .emp .nilSl=some false∧∀o v i len F D,Qn P I t (.sl o v i len F D) .nilSl=some false:=by
   unfold Qn uk wn Yh at g ⊢;dsimp only at g ⊢;cases hu:P.underlying t with
   |none=>rw[hu]at g;cases g
   |some d=>rw[hu]at g;cases d<;>first|(cases g;done)|exact⟨rfl,λ_ _ _ _ _ _=>rfl⟩
  have A:∀{a:AV} {b:Bool},Qn P I t a .nilSl=some b→(Oh P op I t a .nilSl=match op with | .eql=>mc (Qn P I t a .nilSl) | .neq=>pi (Qn P I t a .nilSl)|_=>none)→(match op with | .eql=>K (.bool b) | .neq=>K (.bool !b)|_=>False)→Qo c K (Oh P op I t a .nilSl):=by
   intro a b E B M;rw[B,E];cases op<;>first|exact M.elim|exact .mk (.bool _) M
  cases p with
  |lst Q O N R S =>
   refine A (C.2 _ _ _ _ _ _) Cc ?_;cases op<;>first|exact j.elim|exact j.1
  |lstNil =>
   refine A g Cc ?_;cases op<;>first|exact j.elim|exact j.2 rfl
  |lstEmp =>
   refine A C.1 Cc ?_;cases op<;>first|exact j.elim|exact j.1
 ·cases p with
  |agg g=>cases z with
   |agg j =>
    cases op<;>try exact h.elim
    ·obtain⟨b,H,L,e,k⟩:=h;rw[toAs_scal H g,toAs_scal L j];simp only[Oh];rw[e];exact .mk (.bool _) k
    ·obtain⟨b,H,L,e,k⟩:=h;rw[toAs_scal H g,toAs_scal L j];simp only[Oh];rw[e];exact .mk (.bool _) k
 ·exact h.elim
def ly{op:UnOp}{x:LV}{a:AV}{K:LV→Prop}(g:AR c x a)(h:og op x K):Qo c K (unA op a):=by
 unfold og at h;simp only[zp2,zsy]at h;split at h
 ·cases g;exact .mk (.bool _) h
 ·cases g;refine .mk (.u' ?_) h;rename_i u;rw[Vp,UInt64.toNat_sub];show (0-Int.ofNat u.toNat)%_=((2^64-u.toNat+(0:UInt64).toNat)%2^64:Nat);have:=u.toNat_lt;simp only[Ia,UInt64.toNat_zero];omega
 ·cases g;obtain⟨j,p⟩:=h;refine .mk (.i' ?_) p;have e:∀n:Int,Int.sub 0 n=-n:=λn=>by show 0-n=-n;omega
  rw[e];exact Vy j
 ·cases g;refine .mk (.u' ?_) h;rename_i u;have hu:=u.toNat_lt;show IntKind.wrap .u64 (BitVec.ofInt 64 (IntKind.max .u64) ^^^ BitVec.ofInt 64 (Int.ofNat u.toNat)).toNat=_;have z:BitVec.ofInt 64 (IntKind.max .u64)=BitVec.allOnes 64:=An
  have A:BitVec.ofInt 64 (Int.ofNat u.toNat)=u.toBitVec:=by
   apply BitVec.eq_of_toNat_eq;simp
  rw[z,A,BitVec.allOnes_xor];show ((~~~u.toBitVec).toNat:Int)%18446744073709551616=Int.ofNat (~~~u).toNat;have:(~~~u).toNat=(~~~u.toBitVec).toNat:=rfl;rw[this];exact Jq (I4 _) (by have:=(~~~u.toBitVec).isLt;omega)
 ·exact h.elim
def zsr(n:Int):n%18446744073709551616=Int.ofNat (UInt64.ofInt n).toNat:=by
 unfold UInt64.ofInt;rw[Jn];simp only[Ia];omega
def zqu(n:Int):n%256=Int.ofNat (UInt8.ofInt n).toNat:=by
 unfold UInt8.ofInt;rw[UInt8.toNat_ofNat'];simp only[Ia];omega
def lz{k:IntKind}{x:LV}{a:AV}{K:LV→Prop}(g:AR c x a)(h:ff k x K):∃k' n,a=.int k' n∧∃v,AR c v (.int k (To k n))∧K v:=by
 unfold ff at h;simp only[ky,yn,ye,wv]at h;split at h
 ·cases g;rename_i u;refine⟨_,_,rfl,_,.u' ?_,h⟩;rw[Vp];exact Jq (I4 _) Es
 ·cases g;refine⟨_,_,rfl,_,.u' ?_,h⟩;rename_i n;rw[Vp];exact zsr n
 ·cases g;rename_i u;refine⟨_,_,rfl,_,.u' ?_,h⟩;rw[Vp];have:=u.toNat_lt;rw[Jn];show Int.ofNat u.toNat%18446744073709551616=Int.ofNat (u.toNat%2^64);simp only[Ia];omega
 ·cases g;rename_i u;exact⟨_,_,rfl,_,.i' (Vy ⟨Bz,Bz⟩),h.2⟩
 ·cases g;exact⟨_,_,rfl,_,.i' (Vy h.1),h.2⟩
 ·cases g;rename_i u;have:=u.toNat_lt;exact⟨_,_,rfl,_,.i' (Vy ⟨Bz,Bz⟩),h⟩
 ·cases g;rename_i u;refine⟨_,_,rfl,_,.b' ?_,h⟩;rw[ja,UInt8.toNat_ofNat'];show Int.ofNat u.toNat%256=Int.ofNat (u.toNat%2^8);simp only[Ia];omega
 ·cases g;refine⟨_,_,rfl,_,.b' ?_,h⟩;rename_i n;rw[ja];exact zqu n
 ·cases g;rename_i u;refine⟨_,_,rfl,_,.b' ?_,h⟩;rw[ja];exact Jq (I4 _) Es
 ·cases g;refine⟨_,_,rfl,_,.b' ?_,h⟩;rename_i n;rw[ja];exact zqu n
 ·cases g;refine⟨_,_,rfl,_,?_,h⟩;rename_i n;have e:To .i32 n=w32 n:=by
   rw[Ww];show (if (true&&decide (n%4294967296 ≥ 2147483648))=true then n%4294967296-4294967296 else n%4294967296)=w32 n;simp only[K7,Ht,w32];split<;>omega
  rw[e];exact .int .i32 _
 ·cases g;exact⟨_,_,rfl,_,.i' (Vy h.1),h.2⟩
 ·exact h.elim
def layL_eq:∀(r l:List AV) (i:Nat),i+r.length≤l.length→Sx l i r=Yi l i r
 |[],l,i,h=>by
  simp only[Sx,Yi,List.length_nil,Kq,Ip,H9]
 |a::r,l,i,h=>by
  simp only[Ie]at h;rw[Sx,layL_eq r (l.set i a) (i+1) Ab];refine List.ext_getElem? (λg=>?_);rw[zgz Ab,zgz Ab];simp only[Ie];by_cases j:i+1≤g∧g<i+1+r.length
  ·rw[Hs j,Hs J,show g-i=(g-(i+1))+1 from J,H8]
  ·rw[Hq j];by_cases p:g=i
   ·subst p;rw[Hs J,Hi J];simp
   ·rw[Hq J,Hg (Ne.symm p)]
def zjw{V:Ml}{X:Tr AV}(E:Nl c V X):∀{A:List (Nat×Nat×Lx)} {B l:List LV} {g:List AV},A.all (·.2.2.ok)=true→ARs c B g→cz V B A=some l→∃C,ql (ρA X) g (xo A)=some C∧ARs c l C
 |[],B,l,g,_,h,e=>by
  simp only[cz,Option.some.injEq]at e;subst e;exact⟨g,rfl,h⟩
 |(p,j,x)::A,B,l,g,z,h,e=>by
  simp only[Jx,Hh]at z;simp only[cz]at e;split at e
  ·cases e
  ·rename_i r H;split at e
   ·rename_i I;obtain⟨L,Y⟩:=I;obtain⟨M,N,F⟩:=(Nt E z.1).cells H;have D:=F.length;have O:=h.length;obtain⟨C,Q,R⟩:=zjw E z.2 (h.lay F p) e;refine⟨C,?_,R⟩;simp only[xo,ql,N];have S:Nat.beq M.length j=true:=by rw[←D,L];exact Ii _
    have T:Nat.ble (Nat.add p j) g.length=true:=Ho (by show p+j≤_;omega);simp only[S,T];rw[layL_eq _ _ _ J];exact Q
   ·cases e
def Tt{C:Ml}(z:Nl c C F){d:Nat}{x:Option Lx}(j:ax x=true){K:Nat→Prop}(h:Oe C d x K):∃r n,Oj (ρA F) (x.map Lx.r)=some r∧r.getD d=n∧K n:=by
 cases x with
 |none=>exact⟨none,d,rfl,rfl,h⟩
 |some x =>
  simp only[Oe]at h;have g:=Nt z (show x.ok=true from j);simp only[Jg,Oj];split at h
  ·rename_i n p;obtain⟨A,B⟩:=h;rw[p]at g;generalize x.r.ev (ρA F)=a at g;cases g;obtain⟨m,rfl⟩:=Hx A;exact⟨some m,m,rfl,rfl,B⟩
  ·rename_i n p;rw[p]at g;generalize x.r.ev (ρA F)=a at g;cases g;exact⟨some n.toNat,n.toNat,rfl,rfl,h⟩
  ·exact h.elim
end res
end
section
section res
variable {P : Program} {c : Cx} {G : Mh} {K : LV → Mh → Prop}
def zvj{d:TypeDesc}{k p:LV}{a:AV}{b:Bool}(g:AR c k a)(j:AR c p D)(h:Un d k p=some b):cu d a D=some b:=by
 unfold Un at h;split at h
 ·cases g;cases j;cases h;simp only[cu,show Vj .i64 .i64=true from rfl,ae]
 ·cases g;cases j;cases h;simp only[cu,show Vj .u64 .u64=true from rfl,ae,zjt]
 ·cases g;cases j;cases h;simp only[cu,zuk]
 ·cases h
def zpw{d:TypeDesc}{k:LV}{a:AV}(z:AR c k a){K:Option LV→Prop}:∀{A:List (LV×LV×Nat)} {g:List (AV×AV×Nat)},MRs c A g→fi d k K A→(ju d a g=some none∧K none)∨∃v b,ju d a g=some (some b)∧AR c v b∧K (some v)
 |_,_,.nil,h=>.inl ⟨rfl,h⟩
 |(E,B,n)::l,_,.cons j p C,h=>by
  simp only[fi]at h;split at h
  ·rename_i b D;have:=zvj z j D;simp only[ju,this];cases b with
   |true=>exact .inr ⟨B,_,rfl,p,h.1 rfl⟩
   |false=>exact zpw z C (h.2 rfl)
  ·exact h.elim
def ztf{d:TypeDesc}{k v:LV}{a b:AV}{D:Nat}(z:AR c k a)(A:AR c v b):∀{E:List (LV×LV×Nat)} {j:List (AV×AV×Nat)} {K:List (LV×LV×Nat)→Bool→Prop},MRs c E j→T2 d k v D K E→∃r B g,lr d a b D j=some (B,g)∧MRs c r B∧K r g
 |_,_,K,.nil,h=>⟨_,_,true,rfl,.cons z A .nil,h⟩
 |(H,I,n)::l,_,K,.cons p C F,h=>by
  simp only[T2]at h;split at h
  ·rename_i t L;have:=zvj z p L;simp only[lr,this];cases t with
   |true=>exact⟨_,_,false,rfl,.cons z A F,h.1 rfl⟩
   |false =>
    obtain⟨r,B,g,M,N,O⟩:=ztf (K:=λr g=>K ((H,I,n)::r) g) z A F (h.2 rfl);exact⟨_,_,g,by rw[M],.cons p C N,O⟩
  ·exact h.elim
def zsp(C:HSim c G){x:LV}{a:AV}(A:AR c x a){K:List (LV×LV×Nat)→Prop}(h:Uw G x K):∃j g,vy c.H a=some g∧MRs c j g∧K j∧(a=.nilMap∧g=[]∨∃o p,a=.map o∧c.H.get o=some (.map g p)):=by
 unfold Uw at h;split at h
 ·cases A;exact⟨[],[],rfl,.nil,h,.inl ⟨rfl,rfl⟩⟩
 ·rename_i F;split at h
  ·rename_i j p st D;cases A with
   | @map _ o e =>
    obtain⟨_,H,g,z,B,E⟩:=C.obj F _ _ _ D e;injection z with z
    subst z;refine⟨j,g,?_,E,h,.inr ⟨o,p,rfl,B⟩⟩;simp only[vy,B]
  ·exact h.elim
 ·exact h.elim
def zg3(g:HSim c G)(k:K (.map G.length) (G++[.map [] 0 0])):Qy P c G K (V2 c.H):=by
 unfold V2;obtain⟨j,p,_⟩:=g.push (H':=c.H.push (.map [] 0)) (x:=.map c.H.next) (ob:=.map [] 0 0) (by show c.H.next≤c.H.next+1;omega) (λo z=>Heap.get_push_ne _ _ z) (λo e=>by cases e;exact⟨Hm _,by show c.H.next<c.H.next+1;omega⟩)
  ⟨rfl,c.H.next,[],rfl,Heap.get_push_same _ _,.nil⟩
 exact⟨_,.map G.length,_,rfl,j,p,.map (by rw[←g.len];exact Iq),k⟩
def zty(A:HSim c G){d:TypeDesc}{m k v:LV}{M:AV}(hm:AR c m D)(R:AR c k vR)(S:AR c v M)(h:kz G d m k v λT=>K .any T) :
  Qy P c G K (match (generalizing:=false) D with
   |.map o=>match c.H.get o with
    |some (.map N g)=>match lr d vR M g N with
     |some (p,true)=>.val Qv (c.H.put o (.map p (Nat.add g 1)))
     |some (p,false)=>.val Qv (c.H.put o (.map p g))
     |none=>.no
    |_=>.no
   |_=>.no):=by
 unfold kz at h;split at h
 ·rename_i V;split at h
  ·rename_i N ck st B;cases hm with
   | @map _ o e =>
    obtain⟨_,O,p,C,X,Y⟩:=A.obj V _ _ _ B e;injection C with C
    subst C;obtain⟨r,E,F,Z,q2,Q⟩:=ztf R S Y h;have H:o<c.H.next:=A.lt o ⟨V,_,_,_,B,rfl,e,rfl⟩;have z:∀j,K .any (G.set V (.map r j (st+1)))→Qy P c G K (.val Qv (c.H.put o (.map E j))):=by
     intro j kk;obtain⟨u1,u2,u3⟩:=A.upd (k':=0) (x':=.map o) (ob':=.map r j (st+1)) (H':=c.H.put o (.map E j)) B rfl e (Hm _) (λO _ I=>Heap.get_put_ne _ _ (λq=>I D0)) (λO e'=>by cases e';exact⟨.inl rfl,H⟩) (Hm _) (λ_=>rfl) (λ_=>rfl) (.inl (Iv _))
      (λL=>⟨rfl,o,E,rfl,Heap.get_put_same _ _ _,q2.mono L⟩)
     exact⟨_,.any,_,rfl,u1,u2,.any _,kk⟩
    simp only[X,Z];cases F with
    |true=>exact z _ Q
    |false=>exact z _ Q
  ·exact h.elim
 ·exact h.elim
def HSim.freeze(hs:HSim c G){k o st:Nat}{x:AV}{ob:LObj}(hG:G[j]?=some ob)(hl:ob.live=true)(gC:ob.st<st)(hp:c.hd[j]?=some (k,x))(ho:Nf x=some o) :
  HSim ⟨c.hd,λq=>c.Fz q∨q=o,c.H⟩ (G.set j (.dead st))∧Step c G ⟨c.hd,λq=>c.Fz q∨q=o,c.H⟩ (G.set j (.dead st)):=by
 have gD:j<G.length:=(Hf.1 hG).1;have hle:CxLe c ⟨c.hd,λq=>c.Fz q∨q=o,c.H⟩:=⟨λj k h e=>⟨k,h,e,Hm _,λ_=>rfl,λ_=>rfl⟩,λq hq=>⟨.inl hq,rfl⟩⟩;have gA:Ow c G o:=⟨j,ob,k,x,hG,hl,hp,ho⟩;have hinv:∀{q:Nat} {p:LObj},(G.set j (.dead st))[q]?=some p→(q=j∧p=.dead st)∨(q≠j∧G[q]?=some p):=by
  intro q p e;by_cases hq:q=j
  ·subst hq;rw[Hi gD]at e;cases e;exact .inl ⟨rfl,rfl⟩
  ·rw[Hg (Ne.symm hq)]at e;exact .inr ⟨hq,e⟩
 have gg:∀q,Ow ⟨c.hd,λq=>c.Fz q∨q=o,c.H⟩ (G.set j (.dead st)) q→Ow c G q∧q≠o:=by
  rintro q ⟨p1,p,k1,h1,e1,e2,e3,e4⟩;rcases hinv e1 with ⟨_,rfl⟩|⟨gE,e1⟩
  ·cases e2
  ·refine⟨⟨p1,p,k1,h1,e1,e2,e3,e4⟩,λhq=>gE ?_⟩;subst hq;exact hs.excl p1 j p ob k1 h1 k x q e1 hG e2 hl e3 hp e4 ho
 refine⟨⟨Eo,λq hq=>hq.elim (hs.fz q) (λe=>by rw[e];exact hs.lt o gA),λq hq=>hs.lt q (gg q hq).1,λq hq hf=>hf.elim (hs.sep q (gg q hq).1) (gg q hq).2,λq p k1 h1 e1 e2=>?_,?_⟩,⟨hle,Hm _,λ_ _ _=>rfl,λq hq=>.inl (gg q hq).1,λq hq=>hq.elim .inl (λe=>.inr (.inl (by rw[e];exact gA))),λq p gB e1 e2=>?_,λq p gB k1 h1 o1 e1 e2 e3 e4 e5 e6=>?_⟩⟩
 ·rcases hinv e1 with ⟨_,rfl⟩|⟨_,e1⟩
  ·trivial
  ·by_cases gF:p.live=true
   ·exact (hs.obj q p k1 h1 e1 e2).mono hle (λ_ _=>rfl)
   ·cases p<;>first|exact absurd rfl gF|trivial
 ·intro q r p gB k1 h1 k2 h2 o1 e1 e2 e3 e4 e5 e6 e7 e8;rcases hinv e1 with ⟨_,rfl⟩|⟨_,e1⟩
  ·cases e3
  ·rcases hinv e2 with ⟨_,rfl⟩|⟨_,e2⟩
   ·cases e4
   ·exact hs.excl q r p gB k1 h1 k2 h2 o1 e1 e2 e3 e4 e5 e6 e7 e8
 ·rcases hinv e2 with ⟨rfl,rfl⟩|⟨_,e2⟩
  ·rw[hG]at e1;cases e1;exact L6 gC
  ·rw[e1]at e2;cases e2;exact Hm _
 ·rcases hinv e2 with ⟨rfl,rfl⟩|⟨_,e2⟩
  ·rw[hG]at e1;cases e1;have:ob.st=st:=e6;omega
  ·rw[e1]at e2;cases e2;exact⟨rfl,rfl,rfl⟩
end res
end
end Go.Sv
