/- Texts of the evaluator, of the logic over it, of plain arithmetic. -/
import Derived.Test.YtgjbfhmmgeplmaaGreatSvG2
import Derived.Laws.IdiomCopy
import Derived.Laws.Externs
set_option linter.unusedSimpArgs false
set_option linter.defProp false
namespace Go.Sv
variable{g j C vX:Nat}{z:Int}{B:World}{R:List Int}{Y:Value}{v9:Type}{v7:List Nat}{vO:List Value}{vL:Prop}{Z:List LV}
abbrev Hl:=Int×Int
def Zf(x y:Hl):Prop:=x.2≤y.1∨y.2≤x.1
def Ap(g:Int)(l:List Hl):Prop:=l.Pairwise Zf∧∀h∈l,0≤h.1∧h.1<h.2∧h.2≤g
def zcg{x y:Hl}(h:Zf x y):Zf y x:=Or.symm h
def Ap.perm{s:Int}{l m:List Hl}(h:Ap s l)(gg:l.Perm m):Ap s m:=⟨(gg.pairwise_iff (λ{_ _} h=>zcg h)).1 h.1,λx p=>h.2 x (gg.mem_iff.2 p)⟩
def Ap.split{s a b n:Int}{l:List Hl}(h:Ap s ((a,b)::l))(hn:1≤n)(hb:a+n<b):Ap s ((a,a+n)::(a+n,b)::l):=by
 obtain⟨h1,h2⟩:=h;obtain⟨q1,q2⟩:=Ja.1 h1;have g:=h2 (a,b) (Jf ..);dsimp only at g;refine⟨Ja.2 ⟨λy hy=>?_,Ja.2 ⟨λy hy=>?_,q2⟩⟩,λx hx=>?_⟩
 ·rcases Hu.1 hy with rfl|hy
  ·exact .inl (Jl _)
  ·have:=q1 y hy;unfold Zf at this ⊢;dsimp only at this ⊢;omega
 ·have:=q1 y hy;unfold Zf at this ⊢;dsimp only at this ⊢;omega
 ·rcases Hu.1 hx with rfl|hx
  ·dsimp only;omega
  ·rcases Hu.1 hx with rfl|hx
   ·dsimp only;omega
   ·exact h2 x (In _ hx)
def Ap.join{s a b c:Int}{l:List Hl}(h:Ap s ((a,b)::(b,c)::l)):Ap s ((a,c)::l):=by
 obtain⟨h1,h2⟩:=h;obtain⟨q1,q2⟩:=Ja.1 h1;obtain⟨q3,q4⟩:=Ja.1 q2;have g1:=h2 (a,b) (Jf ..);have g2:=h2 (b,c) (In _ (Jf ..));dsimp only at g1 g2;refine⟨Ja.2 ⟨λy hy=>?_,q4⟩,λx hx=>?_⟩
 ·have t1:=q1 y (In _ hy);have t2:=q3 y hy;have t3:=h2 y (In _ (In _ hy));unfold Zf at t1 t2 ⊢;dsimp only at t1 t2 ⊢;omega
 ·rcases Hu.1 hx with rfl|hx
  ·dsimp only;omega
  ·exact h2 x (In _ (In _ hx))
def Ap.new{s n:Int}{l:List Hl}(h:Ap s l)(hs:0≤s)(hn:1≤n):Ap (s+n) ((s,s+n)::l):=by
 refine⟨Ja.2 ⟨λy hy=>?_,h.1⟩,λx hx=>?_⟩
 ·have:=h.2 y hy;exact .inr this.2.2
 ·rcases Hu.1 hx with rfl|hx
  ·dsimp only;omega
  ·have:=h.2 x hx;omega
def Vk(n:Int):List Hl→Option (Int×List Hl)
 |[]=>none
 |h::l=>if h.2-h.1<n then (match Vk n l with
   |none=>none
   |some r=>some (r.1,h::r.2)) else some (h.1,if h.1+n=h.2 then l else (h.1+n,h.2)::l)
def zqc{s n:Int}(A:1≤n):∀(p z:List Hl) (a:Int) (j:List Hl),Ap s (z++p)→Vk n p=some (a,j)→Ap s ((a,a+n)::(z++j))
 |[],_,_,_,_,h=>Al
 |(x,y)::p,z,a,j,B,h=>by
  unfold Vk at h;split at h
  ·split at h
   ·cases h
   ·rename_i r C;simp only[Option.some.injEq,Prod.mk.injEq]at h;obtain⟨rfl,rfl⟩:=h;have g:Ap s (((x,y)::z)++p):=B.perm Jc;have:=zqc A p ((x,y)::z) r.1 r.2 g C;exact this.perm (List.Perm.cons _ Jc.symm)
  ·rename_i hw;simp only[Option.some.injEq,Prod.mk.injEq]at h;dsimp only at hw h;obtain⟨rfl,rfl⟩:=h;have g:Ap s ((x,y)::(z++p)):=B.perm Jc;split
   ·rename_i e;rw[e];exact g
   ·exact (g.split A J).perm (List.Perm.cons _ Jc.symm)
def Rq:List Hl→List Hl
 |x::y::l=>if x.2=y.1 then Rq ((x.1,y.2)::l) else x::Rq (y::l)
 |l=>l
termination_by l=>l.length
def zjx{s:Int}:∀(n:Nat) (A j:List Hl),A.length≤n→Ap s (j++A)→Ap s (j++Rq A)
 |_,[],j,_,h=>by unfold Rq;exact h
 |_,[x],j,_,h=>by unfold Rq;exact h
 |0,_::_::_,_,p,_=>by simp at p
 |n+1,(z,g)::(D,B)::A,j,p,h=>by
  unfold Rq;split
  ·rename_i e;dsimp only at e ⊢;subst e;refine zjx n _ j (by simp at p ⊢;omega) ?_;have C:Ap s ((z,g)::(j++(g,B)::A)):=h.perm Jc;have E:Ap s ((z,g)::(g,B)::(j++A)):=C.perm (List.Perm.cons _ Jc);exact E.join.perm Jc.symm
  ·have C:Ap s ((j++[(z,g)])++(D,B)::A):=Ay
   have:=zjx n _ (j++[(z,g)]) (by simp at p ⊢;omega) C;simpa using this
def gh{s:Int}{j g:List Hl}{h:Hl}(i A:Nat)(p:Ap s (h::(j++g))):Ap s (j++((g.take i++h::g.drop i).take A++Rq ((g.take i++h::g.drop i).drop A))):=by
 have B:(g.take i++h::g.drop i).Perm (h::g):=by
  have:(g.take i++h::g.drop i).Perm (h::(g.take i++g.drop i)):=Jc
  rwa [H9]at this
 have z:Ap s (j++(g.take i++h::g.drop i)):=p.perm ((Jc.symm).trans (List.Perm.append_left _ B.symm));rw[←H7];refine zjx _ _ _ (Hm _) ?_;rw[H7,H9];exact z
variable{vV:List Hl}
structure St where
 holes:List Hl
 size:Int
def Tw(p:Nat→Hl)(j:Nat→Bool)(s:Bool)(g:List Nat):List Hl:=(g.filter λv=>j v==s).map p
def We(g:Nat→Hl)(v:Nat)(x:Hl):Nat→Hl:=λw=>if w=v then x else g w
def Rx(g:Bool→St)(s:Bool)(x:St):Bool→St:=λt=>if t=s then x else g t
def xz(z:Bool→Int)(A:Nat→Hl)(j:Nat→Bool)(g:List Nat)(p:Bool→St):Prop :=
 ∀s,0≤(p s).size∧Ap (p s).size ((0,z s)::(Tw A j s g++(p s).holes))
def cf(i g:Nat)(h:Hl)(H:List Hl):List Hl:=(H.take i++h::H.drop i).take g++Rq ((H.take i++h::H.drop i).drop g)
def Ok(n:Int)(s:St):Int×St:=match Vk n s.holes with
 |some (a,g)=>(a,⟨g,s.size⟩)
 |none=>(s.size,⟨s.holes,s.size+n⟩)
def zov(j:Nat→Hl)(g:Nat→Bool)(s:Bool)(x y:List Nat):Tw j g s (x++y)=Tw j g s x++Tw j g s y:=by simp[Tw]
def zqw(j:Nat→Hl)(g:Nat→Bool)(s:Bool)(v:Nat)(y:List Nat):Tw j g s (v::y)=(if g v=s then [j v] else [])++Tw j g s y:=by
 unfold Tw;rw[List.filter_cons];by_cases h:g v=s
 ·simp[h]
 ·simp[h]
def cd{j:Nat→Hl}{g:Nat→Bool}{s:Bool}{v:Nat}{x:Hl}{l:List Nat}(h:v ∉ l):Tw (We j v x) g s l=Tw j g s l:=by
 unfold Tw;apply List.map_congr_left;intro w hw;have:w≠v:=λe=>h (e ▸ (L0.1 hw).1)
 simp[We,this]
def dq{A:Bool→Int}{z:Nat→Hl}{g:Nat→Bool}{x y:List Nat}{v:Nat}{p:Bool→St}(i C:Nat)(h:xz A z g (x++v::y) p):xz A z g (x++y) (Rx p (g v) ⟨cf i C (z v) (p (g v)).holes,(p (g v)).size⟩):=by
 intro s;obtain⟨B,j⟩:=h s;rw[zov,zqw]at j;rw[zov];by_cases e:s=g v
 ·subst e;rw[Hs rfl]at j;simp only[Rx,Kh];refine⟨B,?_⟩;rw[←I6];refine gh i C ?_;refine j.perm ?_;rw[H7];refine (List.Perm.cons _ Jc).trans ?_;refine (List.Perm.swap ..).trans (List.Perm.cons _ ?_);simp
 ·rw[Hq (λq=>e q.symm),J2]at j;simp only[Rx,Hq e];exact⟨B,j⟩
def zin{n:Int}(g:1≤n)(s:St):s.size≤(Ok n s).2.size∧(Ok n s).2.size≤s.size+n:=by
 unfold Ok;split
 ·exact⟨Jl _,Aq⟩
 ·exact⟨Aq,Jl _⟩
def zqg{n:Int}(g:1≤n){B:List Hl}{s:St}(j:0≤s.size)(h:Ap s.size (B++s.holes)):Ap (Ok n s).2.size (((Ok n s).1,(Ok n s).1+n)::(B++(Ok n s).2.holes)):=by
 unfold Ok;split
 ·rename_i a p e;exact zqc g _ _ _ _ h e
 ·exact h.new j g
def fp{p:Bool→Int}{z:Nat→Hl}{g:Nat→Bool}{v:Nat}{j:Bool→St}{n:Int}(A:1≤n)(E:v ∉ v7)(h:xz p z g v7 j) :
  xz p (We z v ((Ok n (j (g v))).1,(Ok n (j (g v))).1+n)) g (v7++[v]) (Rx j (g v) (Ok n (j (g v))).2):=by
 intro s;obtain⟨C,D⟩:=h s;rw[zov,zqw,cd E];by_cases e:s=g v
 ·subst e;simp only[Rx,Kh];have F:=zin A (j (g v));refine⟨J,?_⟩;have q:=zqg A (B:=(0,p (g v))::Tw z g (g v) v7) C D;refine q.perm ?_;simp only[We,Kh,Tw,List.filter_nil,L7,Ip,H7,I6,J2];refine (List.Perm.swap ..).trans (List.Perm.cons _ ?_);exact Jc.symm
 ·rw[Hq (λq=>e q.symm)];simp only[Rx,Hq e];refine⟨C,?_⟩;simpa [Tw] using D
structure Plan0 (wk:Bool→Int) (a b M1:Nat→Int) (sec:Nat→Bool) (done busy:List Nat) (iv:Nat→Hl) (ps:Bool→St) (cur:Int):Prop where
 ok:xz wk iv sec busy ps
 wide:∀v∈done,(iv v).2=(iv v).1+M1 v
 nd:busy.Nodup
 sub:∀v∈busy,v∈done
 over:∀v∈done,v ∉ busy→b v<cur
 pairs:∀v∈done,∀w∈done,v≠w→sec v=sec w→Zf (iv v) (iv w)∨b v<a w∨b w<a v
 inn:∀v∈done,0≤(iv v).1∧(iv v).2≤(ps (sec v)).size∧Zf (0,wk (sec v)) (iv v)
 sz:(ps false).size+(ps true).size≤wk false+wk true+(done.map M1).sum
def d9{j:Nat→Hl}{g:Nat→Bool}{v:Nat}{l:List Nat}(h:v∈l):j v∈Tw j g (g v) l:=Li.2 ⟨v,L0.2 ⟨h,U⟩,rfl⟩
def Plan0.give{wk:Bool→Int}{a b M1:Nat→Int}{sec:Nat→Bool}{done x y:List Nat}{v:Nat}{iv:Nat→Hl}{p:Bool→St}{gg j:Int}(i gA:Nat)(h:Plan0 wk a b M1 sec done (x++v::y) iv p gg)(hc:gg≤j)(hb:b v<j) :
  Plan0 wk a b M1 sec done (x++y) iv (Rx p (sec v) ⟨cf i gA (iv v) (p (sec v)).holes,(p (sec v)).size⟩) j:=by
 have sz:∀s,(Rx p (sec v) ⟨cf i gA (iv v) (p (sec v)).holes,(p (sec v)).size⟩ s).size=(p s).size:=by
  intro s;unfold Rx;split
  ·rename_i e;rw[e]
  ·rfl
 refine⟨dq i gA h.ok,h.wide,?_,λw hw=>h.sub w ?_,λw hw hn=>?_,h.pairs,λw hw=>by rw[sz];exact h.inn w hw,by rw[sz,sz];exact h.sz⟩
 ·have:=h.nd;rw[List.nodup_append]at this ⊢;obtain⟨q1,q2,q3⟩:=this;exact⟨q1,(List.nodup_cons.1 q2).2,λgB hp q hq=>q3 gB hp q (In _ hq)⟩
 ·rcases Ib.1 hw with hw|hw
  ·exact Jw _ hw
  ·exact Jr _ (In _ hw)
 ·by_cases e:w=v
  ·rw[e];exact hb
  ·have:w ∉ x++v::y:=by
    intro hm;rcases Ib.1 hm with hm|hm
    ·exact hn (Jw _ hm)
    ·rcases Hu.1 hm with hm|hm
     ·exact e hm
     ·exact hn (Jr _ hm)
   have:=h.over w hw this;omega
def Plan0.take{wk:Bool→Int}{a b M1:Nat→Int}{sec:Nat→Bool}{done busy:List Nat}{v:Nat}{iv:Nat→Hl}{p:Bool→St}(h:Plan0 wk a b M1 sec done busy iv p (a v))(hv:v ∉ done)(hl:1≤M1 v) :
  Plan0 wk a b M1 sec (done++[v]) (busy++[v]) (We iv v ((Ok (M1 v) (p (sec v))).1,(Ok (M1 v) (p (sec v))).1+M1 v)) (Rx p (sec v) (Ok (M1 v) (p (sec v))).2) (a v):=by
 have gA:v ∉ busy:=λhm=>hv (h.sub v hm)
 have hk:=fp hl gA h.ok;have old:∀w∈done,We iv v ((Ok (M1 v) (p (sec v))).1,(Ok (M1 v) (p (sec v))).1+M1 v) w=iv w:=λw hw=>by
  have:w≠v:=λe=>hv (e ▸ hw)
  simp[We,this]
 have nw:We iv v ((Ok (M1 v) (p (sec v))).1,(Ok (M1 v) (p (sec v))).1+M1 v) v=((Ok (M1 v) (p (sec v))).1,(Ok (M1 v) (p (sec v))).1+M1 v):=by simp[We]
 have hz:=zin hl (p (sec v));have gD:∀s,(p s).size≤(Rx p (sec v) (Ok (M1 v) (p (sec v))).2 s).size:=by
  intro s;unfold Rx;split
  ·rename_i e;rw[e];exact hz.1
  ·exact Jl _
 have hA:=zqg hl (B:=(0,wk (sec v))::Tw iv sec (sec v) busy) (h.ok (sec v)).1 (h.ok (sec v)).2;obtain⟨p1,p2⟩:=Ja.1 hA.1;have g:=hA.2 _ (Jf ..);dsimp only at g;have nb:∀w∈done,sec v=sec w→Zf ((Ok (M1 v) (p (sec v))).1,(Ok (M1 v) (p (sec v))).1+M1 v) (iv w)∨b w<a v:=by
  intro w hw hs;by_cases hm:w∈busy
  ·left;refine p1 _ ?_;simp only[I6,Hu,Ib];right;left;rw[hs];exact d9 hm
  ·right;exact h.over w hw hm
 refine⟨hk,?_,?_,?_,?_,?_,?_,?_⟩
 ·intro w hw;rcases Ib.1 hw with hw|hw
  ·rw[old w hw];exact h.wide w hw
  ·rw[J8.1 hw,nw]
 ·rw[List.nodup_append];exact⟨h.nd,U,λgE hp q hq=>by rw[J8.1 hq];exact λe=>gA (e ▸ hp)⟩
 ·intro w hw;rcases Ib.1 hw with hw|hw
  ·exact Jw _ (h.sub w hw)
  ·exact Jr _ hw
 ·intro w hw hn;rcases Ib.1 hw with hw|hw
  ·exact h.over w hw λhm=>hn (Jw _ hm)
  ·exact absurd (Jr _ hw) hn
 ·intro x hx y hy gB hs;rcases Ib.1 hx with gg|hx
  ·rcases Ib.1 hy with gC|hy
   ·rw[old x gg,old y gC];exact h.pairs x gg y gC gB hs
   ·have:=J8.1 hy;subst this;rw[old x gg,nw];rcases nb x gg hs.symm with q|q
    ·exact .inl (zcg q)
    ·exact .inr (.inl q)
  ·have:=J8.1 hx;subst this;rcases Ib.1 hy with hy|hy
   ·rw[old y hy,nw];rcases nb y hy hs with q|q
    ·exact .inl q
    ·exact .inr (.inr q)
   ·exact absurd (J8.1 hy).symm gB
 ·intro w hw;rcases Ib.1 hw with hw|hw
  ·rw[old w hw];have:=h.inn w hw;have:=gD (sec w);exact⟨J,J,(h.inn w hw).2.2⟩
  ·have:=J8.1 hw;subst this;rw[nw];refine⟨g.1,?_,zcg (p1 _ U)⟩;simp only[Rx,Kh];exact g.2.2
 ·rw[Iz,Ll];simp only[Kd,L7,List.sum_cons,List.sum_nil];have:=h.sz;cases hs:sec v
  ·rw[hs]at hz;simp[Rx];omega
  ·rw[hs]at hz;simp[Rx];omega
noncomputable section
structure Bf where
 size:Int
 kind:Int
 sec:Bool
structure Lo where
 kind:Int
 d:Int
 e:Int
 a:Int
 b:Int
 c:Int
 buf:Int
 imm:UInt64
 deriving DecidableEq
def Bf.f(v:Bf):List LV:=[.i v.size,.i v.kind,.bool v.sec]
def Lo.f(o:Lo):List LV:=[.i o.kind,.i o.d,.i o.e,.i o.a,.i o.b,.i o.c,.i o.buf,.u o.imm]
def N0(l:List Bf):List LV:=l.flatMap Bf.f
def yd(l:List Lo):List LV:=l.flatMap Lo.f
def Bf.f_len(v:Bf):v.f.length=3:=rfl
def Lo.f_len(o:Lo):o.f.length=8:=rfl
def Wu(l:List Bf):dats (N0 l)=true:=mh (λ_=>rfl) l
def zkr(l:List Lo):dats (yd l)=true:=mh (λ_=>rfl) l
def qo{l:List Bf}{i:Nat}{v:Bf}(h:l[i]?=some v):((N0 l).drop (i*3)).take 3=v.f:=ld Bf.f_len h
def Yx{l:List Lo}{i:Nat}{v:Lo}(h:l[i]?=some v):((yd l).drop (i*8)).take 8=v.f:=ld Lo.f_len h
def sx{l:List Bf}{i:Nat}{v:Bf}(h:l[i]?=some v):(N0 l)[i*3]?=some (.i v.size):=by have:=Sy Bf.f_len h (j:=0) J;simpa [N0,Bf.f] using this
def sf{l:List Bf}{i:Nat}{v:Bf}(h:l[i]?=some v):(N0 l)[i*3+1]?=some (.i v.kind):=by have:=Sy Bf.f_len h (j:=1) J;simpa [N0,Bf.f] using this
def zq7{l:List Bf}{i:Nat}{v:Bf}(h:l[i]?=some v):(N0 l)[i*3+2]?=some (.bool v.sec):=by have:=Sy Bf.f_len h (j:=2) J;simpa [N0,Bf.f] using this
def Uk{l:List Bf}{i:Nat}(h:i<l.length):i*3+3≤(N0 l).length:=uf Bf.f_len h
def zd{l:List Lo}{i:Nat}(h:i<l.length):i*8+8≤(yd l).length:=uf Lo.f_len h
def xc(a b:List Bf):N0 (a++b)=N0 a++N0 b:=by simp[N0]
def My(l:List Bf)(n:Nat):Bf:=l.getD n ⟨0,0,false⟩
def glo(l:List Lo)(n:Nat):Lo:=l.getD n ⟨0,0,0,0,0,0,0,0⟩
def Qp{l:List Bf}{n:Nat}(h:n<l.length):l[n]?=some (My l n):=by simp[My,Hr,h]
def Zz{l:List Lo}{n:Nat}(h:n<l.length):l[n]?=some (glo l n):=by simp[glo,Hr,h]
def Y0{l:List Lo}{n:Nat}(h:n<l.length):l.drop n=glo l n::l.drop (n+1):=by
 rw[If h];congr 1;have:=Zz h;rw[Hj h]at this;exact Option.some.inj this
def x4(n:Nat):M7 [.bool false] n=(List.replicate n false).map LV.bool:=by
 induction n with
 |zero=>rfl
 |succ n g=>rw[M7,g,Jo];rfl
def Qz(o:Lo):List Int :=
 if o.kind=2∨o.kind=8∨o.kind=9 then [o.a]
 else if (3≤o.kind∧o.kind≤7)∨o.kind=10 then [o.a,o.b]
 else if o.kind=11∨o.kind=12∨o.kind=13 then [o.a,o.b,o.c]
 else if o.kind=14∧¬o.a=-1 then [o.a]
 else if o.kind=15∧¬o.a=-1 then [o.a,o.b]
 else if o.kind=15 then [o.b] else []
def Ov(o:Lo):List Int :=
 if o.kind=10∨o.kind=11∨o.kind=12 then [o.d,o.e]
 else if o.kind=15∨o.kind=17 then [] else [o.d]
def Sz(g r:Int)(j:Bool):Bool:=if j=true then decide (0≤r)&&decide (r<g) else decide (r=-1)
def Ye(k:Int):Bool:=!decide (k=15) && !decide (k=17)
def Up(k:Int):Bool:=decide (k=10) || (decide (k=11) || decide (k=12))
def Yd(k:Int):Bool:=!decide (k=1)&&(!decide (k=16) && !decide (k=17))
def yo(k:Int):Bool:=(decide (3≤k)&&decide (k≤7)) || ((decide (10≤k)&&decide (k≤13)) || decide (k=15))
def xe(k:Int):Bool:=decide (11≤k)&&decide (k≤13)
def Ux(k:Int):Bool:=decide (k=14) || decide (k=15)
def du(g:Int)(j:List Bf)(o:Lo):Bool :=
 (decide (1≤o.kind)&&decide (o.kind≤17))&&(Sz g o.d (Ye o.kind)&&(Sz g o.e (Up o.kind)&&((Sz g o.a (Yd o.kind) || (Ux o.kind&&decide (o.a=-1)))&&(Sz g o.b (yo o.kind)&&(Sz g o.c (xe o.kind)&&(!(Up o.kind&&decide (o.d=o.e)) &&
  (if Ux o.kind=true then decide (0≤o.buf)&&(decide (o.buf<j.length)&&(!(decide (o.kind=15)&&decide ((My j o.buf.toNat).kind=1))&&(!decide (o.a=-1) || decide (o.imm<iU (My j o.buf.toNat).size))))
   else decide (o.buf=0)&&(if o.kind=1 then true else if o.kind=8∨o.kind=9 then decide (1≤o.imm)&&decide (o.imm≤63) else if o.kind=16 then decide (1≤o.imm)&&decide (o.imm≤1048576) else decide (o.imm=0)))))))))
def Sd(m:List Bool)(r:Int):Bool:=m.getD r.toNat false
def Wa(j:Int)(p:List Bf)(m:List Bool)(g:List Int)(o:Lo):Int×List Bool×List Int :=
 if du j p o=false then (2,m,g)
 else if o.kind=17 then (match g.getLast? with|none=>(9,m,g)|some d=>(0,m.set d.toNat false,g.dropLast))
 else if (Ov o).any (λr=>g.contains r)=true then (9,m,g)
 else if o.kind=16∧Sd m o.d=true then (9,m,g)
 else if o.kind=16∧g.length=8 then (10,m,g)
 else if (Qz o).any (λr=>!Sd m r)=true then (5,m,g)
 else (0,(Ov o).foldl (λm r=>m.set r.toNat true) m,if o.kind=16 then g++[o.d] else g)
def xg(g:Int)(p:List Bf):Nat→List Bool→List Int→List Lo→Int×Int
 |i,_,j,[]=>if j=[] then (i,0) else (i,9)
 |i,m,j,o::l=>if (Wa g p m j o).1=0 then xg g p (i+1) (Wa g p m j o).2.1 (Wa g p m j o).2.2 l else (i,(Wa g p m j o).1)
def Td(g:Int)(j:List Bf)(p:List Lo):Int×Int :=
 if 64<g∨32<j.length∨65536<p.length then (0,3)
 else if (j.any λb=>decide (65536<b.size))=true then (0,3)
 else if g<0 then (0,2)
 else if (j.any λb=>decide (b.size<1) || (decide (b.kind<1) || decide (3<b.kind)))=true then (0,2)
 else xg g j 0 (List.replicate g.toNat false) [] p
structure Ms where
 i:Nat
 first:Bool
 r:List UInt64
 bufs:List (List UInt64)
 l:List (Int×Int)
end
section
structure Fs where
 r:Nat→UInt64
 m:Nat→Nat→UInt64
def Fs.put(s:Fs)(d:Nat)(v:UInt64):Fs:=⟨λx=>if x=d then v else s.r x,s.m⟩
structure Rep (nb:Nat) (sz:Nat→Nat) (s:Ms) (t:Fs):Prop where
 rl:s.r.length=64
 r:∀x,x<64→s.r.getD x 0=t.r x
 bl:s.bufs.length=nb
 len:∀b,b<nb→(s.bufs.getD b []).length=sz b
 m:∀b n,b<nb→n<sz b→(s.bufs.getD b []).getD n 0=t.m b n
section rep
variable {nb : Nat} {sz : Nat → Nat} {s : Ms} {t : Fs}
end rep
end
def Fr.stp:Fr Lo→Nat
 |.nil=>0
 |.op _ r=>1+r.stp
 |.loop o b _ r=>o.imm.toNat*(1+b.stp)+r.stp
structure SameLen (s s':Ms):Prop where
 r:s'.r.length=s.r.length
 b:s'.bufs.map List.length=s.bufs.map List.length
 i:s'.i=s.i+1
 l:s'.l.length=s.l.length+1
 f:s'.first=s.first
structure Pc where
 buf:Int
 at_:Int
 size:Int
def Pc.f(p:Pc):List LV:=[.i p.buf,.i p.at_,.i p.size]
section
def Te(x y:Pc):Prop:=x.buf=y.buf∧x.at_<y.at_+y.size∧y.at_<x.at_+x.size
def Sb(base:Int)(iv:Nat→Hl)(M1:Nat→Int)(sec:Nat→Bool)(i:Nat):Pc:=if (i:Int)<base then ⟨i,0,M1 i⟩ else ⟨base+(if sec i=true then 1 else 0),(iv i).1,M1 i⟩
def Ur(base:Int)(wk:Bool→Int)(s:Bool):Pc:=⟨base+(if s=true then 1 else 0),0,wk s⟩
section made
variable {wk : Bool → Int} {a b M1 : Nat → Int} {sec : Nat → Bool} {done busy : List Nat} {iv : Nat → Hl} {ps : Bool → St} {cur base : Int} {n : Nat}
def zv4(h:Plan0 wk a b M1 sec done busy iv ps cur)(hd:∀i:Nat,base≤i→i<n→i∈done){i:Nat}(F:i<n)(G:g<n)(A:i≠g)(H:Te (Sb base iv M1 sec i) (Sb base iv M1 sec g)):b i<a g∨b g<a i:=by
 obtain⟨j,B,C⟩:=H;unfold Sb at j B C;by_cases z:(i:Int)<base
 ·by_cases p:(g:Int)<base
  ·rw[Hs z,Hs p]at j;dsimp only at j;omega
  ·rw[Hs z,Hq p]at j;dsimp only at j;split at j<;>omega
 ·by_cases p:(g:Int)<base
  ·rw[Hq z,Hs p]at j;dsimp only at j;split at j<;>omega
  ·rw[Hq z,Hq p]at j B C;dsimp only at j B C;have D:=hd i J F;have E:=hd g J G;have I:sec i=sec g:=by
    cases K:sec i<;>cases L:sec g<;>simp[K,L]at j ⊢<;>omega
   rcases h.pairs i D g E A I with q|q
   ·have M:=h.wide i D;have N:=h.wide g E;unfold Zf at q;omega
   ·exact q
def zpr(h:Plan0 wk a b M1 sec done busy iv ps cur)(hd:∀i:Nat,base≤i→i<n→i∈done){i:Nat}(B:i<n)(s:Bool):¬Te (Sb base iv M1 sec i) (Ur base wk s):=by
 intro C;obtain⟨g,j,p⟩:=C;unfold Sb Ur at g j p;by_cases z:(i:Int)<base
 ·rw[Hs z]at g;dsimp only at g;split at g<;>omega
 ·rw[Hq z]at g j p;dsimp only at g j p;have A:=hd i J B;have D:sec i=s:=by
   cases E:sec i<;>cases s<;>simp[E]at g ⊢<;>omega
  subst D;have F:=h.wide i A;have:=(h.inn i A).2.2;unfold Zf at this;dsimp only at this;omega
def works_apart:¬Te (Ur base wk false) (Ur base wk true):=by
 intro g;have:=g.1;simp[Ur]at this;omega
def zow(h:Plan0 wk a b M1 sec done busy iv ps cur)(s:Bool):1≤wk s∧wk s≤(ps s).size:=by
 have:=(h.ok s).2.2 _ (Jf ..);dsimp only at this;omega
def zs8{wk:Bool→Int}{a b M1:Nat→Int}{sec:Nat→Bool}{iv:Nat→Hl}{cur:Int}(h:∀s,1≤wk s):Plan0 wk a b M1 sec [] [] iv (λs=>⟨[],wk s⟩) cur:=by
 refine⟨λs=>⟨?_,?_⟩,U,U,U,U,U,U,U⟩
 ·have:=h s;dsimp only;omega
 ·have:=h s;refine⟨by simp[Tw],λx g=>?_⟩;simp[Tw]at g;subst g;dsimp only;omega
end made
end
section
def Nq{α:Type}(k:α→Int)(l:List α):Prop:=l.Pairwise λx y=>k x≤k y
section sym
variable {α : Type} {k : α → Int}
def Nq.last{l:List α}(h:Nq k l){u z:α}(hu:u∈l)(hz:l.getLast?=some z):k u≤k z:=by
 obtain⟨ys,rfl⟩:=List.getLast?_eq_some_iff.1 hz;have:=Kf.1 h;rcases Ib.1 hu with q|q
 ·exact this.2.2 u q z U
 ·rw[J8.1 q];exact Jl _
def Nq.head{l:List α}(h:Nq k l){u z:α}(hu:u∈l)(hz:l.head?=some z):k z≤k u:=by
 obtain⟨ys,rfl⟩:=List.head?_eq_some_iff.1 hz;have:=Ja.1 h;rcases Hu.1 hu with q|q
 ·rw[q];exact Jl _
 ·exact this.1 u q
def zvy{l:List α}{u:α}(h:u∈l):∃j,l.getLast?=some j:=by
 cases g:l.getLast? with
 |none=>rw[List.getLast?_eq_none_iff]at g;subst g;cases h
 |some j=>exact⟨j,rfl⟩
def zvg{l:List α}{u:α}(h:u∈l):∃g,l.head?=some g:=by
 cases l with
 |nil=>cases h
 |cons g t=>exact⟨g,rfl⟩
def rh{p z A B:List α}(C:Nq k (p++z))(D:Nq k (A++B))(E:∀u w,p.getLast?=some u→B.head?=some w→k u≤k w)(F:∀u w,A.getLast?=some u→z.head?=some w→k u≤k w) :
  ∀u∈p++A,∀w∈z++B,k u≤k w:=by
 obtain⟨G,H,I⟩:=Kf.1 C;obtain⟨K,L,M⟩:=Kf.1 D;intro u hu w hw;rcases Ib.1 hu with hu|hu<;>rcases Ib.1 hw with hw|hw
 ·exact I u hu w hw
 ·obtain⟨N,g⟩:=zvy hu;obtain⟨y,j⟩:=zvg hw;exact Lr (Nq.last G hu g) (Lr (E N y g j) (Nq.head L hw j))
 ·obtain⟨N,g⟩:=zvy hu;obtain⟨y,j⟩:=zvg hw;exact Lr (Nq.last K hu g) (Lr (F N y g j) (Nq.head H hw j))
 ·exact M u hu w hw
def X6{C D g j:List α}(p:g.Perm C)(z:j.Perm D)(A:Nq k g)(B:Nq k j)(h:∀u∈C,∀w∈D,k u≤k w):Nq k (g++j) :=
 Kf.2 ⟨A,B,λu hu w hw=>h u (p.mem_iff.1 hu) w (z.mem_iff.1 hw)⟩
def zp8(g j p z:List α):((g++p)++(j++z)).Perm ((g++j)++(p++z)):=by
 simp only[H7];refine List.Perm.append_left _ ?_;rw[←H7,←H7];exact List.Perm.append_right _ List.perm_append_comm
def zj1{l:List α}{x:α}(h:Nq k l){i:Nat}(g:∀y∈l.take i,k y≤k x)(j:∀y∈l.drop i,k x≤k y):Nq k (l.take i++x::l.drop i):=by
 rw[←H9 i l]at h;obtain⟨p,z,A⟩:=Kf.1 h;refine Kf.2 ⟨p,Ja.2 ⟨j,z⟩,λu hu w hw=>?_⟩;rcases Hu.1 hw with hw|hw
 ·rw[hw];exact g u hu
 ·exact A u hu w hw
end sym
end
def ztj(g:List Vr):Mw g (S6 0 g) []=O6 g:=by
 unfold Mw;cases p:O6 g with
 |false=>rfl
 |true =>
  have E:=uq p;have z:=startOs_len g 0;obtain⟨m,A,F,B⟩:=zda g 0 (Rp g) rfl (by simp[Rp]) (λG j=>J) (λG _ j=>by
   unfold gb Rp;rw[Hr,Jp,P8 j];rfl)
  rw[A];have hm:Ue g m=true:=by
   unfold Ue;rw[I7];intro i C;simp[B i (I9.1 C)]
  have D:(S6 0 g).length≤4096:=J
  simp[hm,D]
def M3(l:List Pc)(n:Nat):Pc:=l.getD n ⟨0,0,0⟩
def Ud(g:List Bf):Int :=
 if 32<g.length then 3 else if (g.any λb=>decide (65536<b.size))=true then 3 else if (g.any λb=>decide (b.size<1) || (decide (b.kind<1) || decide (3<b.kind)))=true then 2 else 0
def Qu(g:List Bf)(x:Pc):Bool:=decide (0≤x.buf)&&(decide (x.buf<g.length)&&(decide (1≤x.size)&&(decide (x.size≤32768)&&(decide (0≤x.at_)&&(decide (x.at_≤(My g x.buf.toNat).size)&&decide (x.size≤(My g x.buf.toNat).size-x.at_))))))
def Sc(g:List Bf)(v:Vr)(x:Pc):Bool :=
 Qu g x&&(decide (x.size=v.limbs)&&(!(decide ((My g x.buf.toNat).kind=1) && !Oo v)&&(!(decide ((My g x.buf.toNat).kind=2)&&Oo v)&&(v.sec==(My g x.buf.toNat).sec))))
def Q3(g:List Bf)(s:Bool)(x:Pc):Bool:=Qu g x&&(!decide ((My g x.buf.toNat).kind=1)&&((My g x.buf.toNat).sec==s))
def Rj(vs:List Vr)(g:List Bf)(ps:List Pc)(j p:Pc):Bool :=
 O6 vs&&(decide (1≤g.length)&&(decide (ps.length=vs.length)&&(decide (Ud g=0)&&(((List.range vs.length).all λi=>Sc g (gv vs i) (M3 ps i))&&(Q3 g false j&&Q3 g true p)))))
def N5(l:List Pc):List LV:=l.flatMap Pc.f
def zpg(v:Vr)(l:List Vr):gv (v::l) 0=v:=rfl
def zqf(v:Vr)(l:List Vr)(g:Nat):gv (v::l) (g+1)=gv l g:=rfl
def vgo_params:∀(l:List Vr) (i p r:Nat),Oc i p l=some r→p≤i→p≤r∧(p<i→r=p)∧∀g,g<l.length→((gv l g).mode≠0↔i+g<r)
 |[],i,p,r,h,F=>by
  cases h;exact⟨Hm _,λ_=>rfl,λg j=>by simp at j⟩
 |v::l,i,p,r,h,F=>by
  unfold Oc at h;split at h
  ·cases h
  ·split at h
   ·rename_i z;obtain⟨C,D,A⟩:=vgo_params l (i+1) p r h J;have G:=D J;refine⟨C,λ_=>G,λg j=>?_⟩;cases g with
    | zero => rw [zpg]; constructor
              ·intro E;exact absurd z E
              ·intro E;omega
    |succ g=>rw[zqf,A g Bd];omega
   ·rename_i z;split at h
    ·cases h
    ·rename_i H;have B:¬p<i:=λq=>H (.inl q)
     obtain⟨C,D,A⟩:=vgo_params l (i+1) (p+1) r h J;refine⟨J,λq=>absurd q B,λg j=>?_⟩;cases g with
     | zero => rw [zpg]; constructor
               ·intro _;omega
               ·intro _;exact z
     |succ g=>rw[zqf,A g Bd];omega
def zh3{vs:List Vr}(h:O6 vs=true):∃r:Nat,Oc 0 0 vs=some r∧r≤12∧r≤vs.length∧∀p,p<vs.length→((gv vs p).mode≠0↔p<r):=by
 unfold O6 at h;split at h
 ·cases h
 ·rename_i r g;simp only[Hh,Ht]at h;obtain⟨D,E,B⟩:=vgo_params vs 0 0 r g (Hm _);have j:r≤vs.length:=by
   by_cases q:vs.length<r
   ·exfalso;have:∀(l:List Vr) (i A r:Nat),Oc i A l=some r→r≤A+l.length:=by
     intro l
     induction l with
     |nil=>intro i A r h;cases h;simp
     |cons v l z =>
      intro i A r h;unfold Oc at h;split at h
      ·cases h
      ·split at h
       ·have:=z _ _ _ h;simp;omega
       ·split at h
        ·cases h
        ·have:=z _ _ _ h;simp;omega
    have:=this vs 0 0 r g;omega
   ·omega
  refine⟨r,g,J,j,λp C=>?_⟩;rw[B p C,Is]
def Pt(v:Vr):Bf:=⟨v.limbs,if v.mode=3 then 2 else 1,v.sec⟩
def Rd(vs:List Vr)(r:Nat)(ps:Bool→St):List Bf:=((List.range r).map λi=>Pt (gv vs i))++[⟨(ps false).size,3,false⟩,⟨(ps true).size,3,true⟩]
def Th(vs:List Vr)(r:Nat)(g:Nat→Hl):List Pc:=(List.range vs.length).map λi=>Sb r g (λi=>(gv vs i).limbs) (λi=>(gv vs i).sec) i
def zb3(vs:List Vr)(r:Nat)(ps:Bool→St):(Rd vs r ps).length=r+2:=by simp[Rd]
def zik{vs:List Vr}{r i:Nat}{ps:Bool→St}(h:i<r):My (Rd vs r ps) i=Pt (gv vs i):=by
 unfold My Rd;rw[Hr,Hk Cq];simp[h]
def x8{vs:List Vr}{r:Nat}{ps:Bool→St}(s:Bool):My (Rd vs r ps) (r+(if s=true then 1 else 0))=⟨(ps s).size,3,s⟩:=by
 unfold My Rd;rw[Hr,H5 U];cases s<;>simp
def zh0{vs:List Vr}{r i:Nat}{g:Nat→Hl}(h:i<vs.length):M3 (Th vs r g) i=Sb r g (λi=>(gv vs i).limbs) (λi=>(gv vs i).sec) i:=by
 unfold M3 Th;rw[Hr];simp[h]
def ztn{vs:List Vr}{r:Nat}{A:Bool→Int}{a b:Nat→Int}{done:List Nat}{C:Nat→Hl}{ps:Bool→St}(D:O6 vs=true)(Q:Oc 0 0 vs=some r)
  (h:Plan0 A a b (λi=>(gv vs i).limbs) (λi=>(gv vs i).sec) done v7 C ps z) (hd:∀i:Nat,r≤i→i<vs.length→i∈done) (hs:(ps false).size+(ps true).size≤65536) (hw:∀s,A s≤32768) :
  Rj vs (Rd vs r ps) (Th vs r C) (Ur r A false) (Ur r A true)=true:=by
 obtain⟨r',E,R,S,T⟩:=zh3 D;rw[Q]at E;obtain rfl:=Option.some.inj E;have w0:=zow h false;have V:=zow h true;have F:∀s,1≤(ps s).size∧(ps s).size≤65536:=by intro s;cases s<;>omega
 have hl:=uq D;have G:=zb3 vs r ps;have H:∀x∈Rd vs r ps,1≤x.size∧x.size≤65536∧1≤x.kind∧x.kind≤3:=by
  intro x g;unfold Rd at g;rcases Ib.1 g with g|g
  ·obtain⟨i,B,rfl⟩:=Li.1 g;have B:=I9.1 B;have:=oz D _ (bx (vs:=vs) (i:=i) J);unfold Pt;dsimp only;refine⟨J,J,?_,?_⟩<;>split<;>omega
  ·have N:=F false;have O:=F true;simp only[Hu,Jm,Ln]at g;rcases g with rfl|rfl
   ·exact⟨N.1,N.2,by show (1:Int)≤3;decide,by show (3:Int)≤3;decide⟩
   ·exact⟨O.1,O.2,by show (1:Int)≤3;decide,by show (3:Int)≤3;decide⟩
 have K:Ud (Rd vs r ps)=0:=by
  unfold Ud;rw[Hq J,Hq,Hq]
  ·intro q;obtain⟨x,g,q⟩:=Jh.1 q;have:=H x g;simp only[J3,Ht]at q;omega
  ·intro q;obtain⟨x,g,q⟩:=Jh.1 q;have:=H x g;simp only[Ht]at q;omega
 have tmp:∀s:Bool,∃q:Nat,(r:Int)+(if s=true then 1 else 0)=(q:Int)∧q<(Rd vs r ps).length∧My (Rd vs r ps) q=⟨(ps s).size,3,s⟩:=by
  intro s;refine⟨r+(if s=true then 1 else 0),?_,?_,x8 s⟩
  ·cases s<;>simp
  ·rw[G];cases s<;>simp
 have j:∀s,Q3 (Rd vs r ps) s (Ur r A s)=true:=by
  intro s;obtain⟨q,L,X,M⟩:=tmp s;have w:=zow h s;have:=hw s;have e:Ur r A s=⟨q,0,A s⟩:=by unfold Ur;rw[L]
  rw[e];simp only[Q3,Qu,Io,M,Hh,Ht,Ki,Kw,beq_self_eq_true,and_true];refine⟨⟨J,J,J,J,J,J,J⟩,An⟩
 have p:∀i,i<vs.length→Sc (Rd vs r ps) (gv vs i) (M3 (Th vs r C) i)=true:=by
  intro i B;rw[zh0 B];have vl:=oz D _ (bx B);by_cases q:i<r
  ·have e:Sb r C (λi=>(gv vs i).limbs) (λi=>(gv vs i).sec) i=⟨i,0,(gv vs i).limbs⟩:=by unfold Sb;rw[Hs J]
   have t:=zik (vs:=vs) (ps:=ps) q;have hm:=(T i B).2 q;rw[e];simp only[Sc,Qu,Io,t,Pt,Hh,Ht,Ki,beq_self_eq_true,and_true];refine⟨⟨J,J,J,J,J,J,J⟩,trivial,?_,?_⟩
   ·by_cases I:(gv vs i).mode=3
    ·simp[I]
    ·have:(gv vs i).mode=1∨(gv vs i).mode=2:=J
     rcases this with m|m<;>simp[Oo,m]
   ·by_cases I:(gv vs i).mode=3
    ·simp[Oo,I]
    ·simp[I]
  ·have P:=hd i J B;obtain⟨Y,L,X,M⟩:=tmp (gv vs i).sec;have V:=h.wide i P;have Z:=h.inn i P;have e:Sb r C (λi=>(gv vs i).limbs) (λi=>(gv vs i).sec) i=⟨Y,(C i).1,(gv vs i).limbs⟩:=by unfold Sb;rw[Hq J,L]
   rw[e];simp only[Sc,Qu,Io,M,Hh,Ht,Ki,beq_self_eq_true,and_true];refine⟨⟨J,J,J,J,Z.1,J,J⟩,trivial,?_,?_⟩<;>simp
 simp only[Rj,Hh,Ht,I7,I9];exact⟨D,J,by simp[Th],K,p,j false,j true⟩
section
open Go.RowKit (Below)
set_option linter.unusedVariables false
structure Turn (w w':World) (b:Nat):Prop where
 os:w'.os=w.os
 tape:w'.tape=w.tape
 output:w'.output=w.output
 size:w.heap.size≤w'.heap.size
 block:∀k,k<w.heap.size→k≠b→w'.heap[k]?=w.heap[k]?
def Turn.refl(w:World)(b:Nat):Turn w w b:=⟨rfl,rfl,rfl,Hm _,λ_ _ _=>rfl⟩
def Turn.trans{w w' gg:World}{b:Nat}(h:Turn w w' b)(k:Turn w' gg b):Turn w gg b :=
 ⟨k.os.trans h.os,k.tape.trans h.tape,k.output.trans h.output,Ix h.size k.size,λi hi hb=>(k.block i (Ik hi h.size) hb).trans (h.block i hi hb)⟩
def Turn.drew{w w':World}{b:Nat}(h:Turn w w' b):Turn w w'.drew b:=⟨h.os,h.tape,h.output,h.size,h.block⟩
def ze8(b:Nat):∀(r:List Value) (o:Nat) (w:World),(w.setCells b o r).os=w.os∧(w.setCells b o r).tape=w.tape∧(w.setCells b o r).output=w.output∧(w.setCells b o r).heap.size=w.heap.size∧∀k,k≠b→(w.setCells b o r).heap[k]?=w.heap[k]?
 |[],o,w=>⟨rfl,rfl,rfl,rfl,λ_ _=>rfl⟩
 |v::r,o,w=>by
  obtain⟨j,p,z,A,B⟩:=ze8 b r (o+1) (w.setCell ⟨b,o,none⟩ v);rw[World.setCells];refine⟨j,p,z,by rw[A];simp[World.setCell],λk g=>?_⟩;rw[B k g];exact Below.heap_setCell w _ v k g
def Turn.cells{w w':World}{b b':Nat}(h:Turn w w' b)(hb:b'=b∨w.heap.size≤b')(o:Nat)(r:List Value):Turn w (w'.setCells b' o r) b:=by
 obtain⟨h1,h2,h3,h4,h5⟩:=ze8 b' r o w';exact⟨h1.trans h.os,h2.trans h.tape,h3.trans h.output,by rw[h4];exact h.size,λk hk gg=>(h5 k J).trans (h.block k hk gg)⟩
def Turn.alloc{w w':World}{b:Nat}(h:Turn w w' b)(x:Obj):Turn w (w'.alloc x) b :=
 ⟨h.os,h.tape,h.output,by rw[World.size_alloc];exact Nat.le_succ_of_le h.size,λk hk hb=>(xp w' x (Ik hk h.size)).trans (h.block k hk hb)⟩
def zh8(b:Nat)(e:TypeId)(A B:Nat):∀(r:List Value) (o:Nat) (w:World) (j:Array Value),w.heap[b]?=some (.cells j e (A,B))→o+r.length≤j.size →
  ∃g,(w.setCells b o r).heap[b]?=some (.cells g e (A,B))∧g.size=j.size∧∀p,g[p]?=if o≤p∧p<o+r.length then r[p-o]? else j[p]?
 |[],o,w,j,h,_=>⟨j,h,rfl,λp=>by rw[Hq U]⟩
 |v::r,o,w,j,h,E=>by
  simp only[Ie]at E;have z:(w.setCell ⟨b,o,none⟩ v).heap[b]?=some (.cells (j.setIfInBounds o v) e (A,B)):=by
   simp only[World.setCell,Array.getElem?_modify,Kh,h,Jg];rfl
  obtain⟨g,F,G,H⟩:=zh8 b e A B r (o+1) _ _ z (by rw[Lk];omega);refine⟨g,F,by rw[G,Lk],λp=>?_⟩;rw[H p,L3];by_cases C:o+1≤p∧p<o+1+r.length
  ·rw[Hs C,Hs Bm,(J:p-o=(p-(o+1))+1),H8]
  ·rw[Hq C];by_cases D:o=p
   ·subst D;rw[Hs rfl,Hs J,Hs Bm,Lf,H6]
   ·rw[Hq D,Hq Bm]
structure RowIn (w:World) (b d cap k:Nat) (cs:List Value):Prop where
 has:∃vs e lo hi,w.heap[b]?=some (.cells vs e (lo,hi))∧d+cap*k≤vs.size∧(∀i,d≤i→i<d+cap*k→¬(lo≤i∧i<hi))∧∀j u,cs[j]?=some u→vs[d+j]?=some u
def RowIn.lt{w:World}{b d cap k:Nat}{cs:List Value}(h:RowIn w b d cap k cs):b<w.heap.size:=by
 obtain⟨vs,e,lo,hi,h1,_⟩:=h;exact (Le.1 h1).1
def RowIn.cell{w:World}{b d cap k:Nat}{cs:List Value}(h:RowIn w b d cap k cs):∀j u,cs[j]?=some u→w.cell? ⟨b,d+j,none⟩=some u:=by
 obtain⟨vs,e,lo,hi,h1,_,_,h4⟩:=h;intro j u hj;rw[fy h1];exact h4 j u hj
def RowIn.room{w:World}{b d cap k:Nat}{cs:List Value}(h:RowIn w b d cap k cs):∀j,j<cap*k→(w.cell? ⟨b,d+j,none⟩).isSome=true:=by
 obtain⟨vs,e,lo,hi,h1,h2,_,_⟩:=h;intro j hj;rw[fy h1,Iy J];rfl
def RowIn.free{w:World}{b d cap k:Nat}{cs:List Value}(h:RowIn w b d cap k cs):∀j,j<cap*k→w.frozen? ⟨b,d+j,none⟩=false:=by
 obtain⟨vs,e,lo,hi,h1,h2,h3,_⟩:=h;intro j hj;simp only[World.frozen?,h1];have:=h3 (d+j) J J;simp only[Bool.and_eq_false_iff,Kw];omega
def RowIn.put{w:World}{b d cap k:Nat}{cs cs':List Value}(h:RowIn w b d cap k cs)(o:Nat)(r:List Value)(ho:o+r.length≤cap*k)
  (gg:∀j u,cs'[j]?=some u→if o≤j∧j<o+r.length then r[j-o]?=some u else cs[j]?=some u):RowIn (w.setCells b (d+o) r) b d cap k cs':=by
 obtain⟨vs,e,lo,hi,h1,h2,h3,h4⟩:=h;obtain⟨gA,q1,q2,q3⟩:=zh8 b e lo hi r (d+o) w vs h1 J;refine⟨gA,e,lo,hi,q1,J,h3,λj u hj=>?_⟩;have:=gg j u hj;rw[q3];by_cases e1:o≤j∧j<o+r.length
 ·rw[Hs e1]at this;rw[Hs J,(J:d+j-(d+o)=j-o)];exact this
 ·rw[Hq e1]at this;rw[Hq J];exact h4 j u this
def RowIn.drew{w:World}{b d cap k:Nat}{cs:List Value}(h:RowIn w b d cap k cs):RowIn w.drew b d cap k cs:=⟨h.has⟩
def RowIn.new(w:World)(j:Array Value)(e:TypeId)(cap k:Nat)(cs:List Value)(hs:cap*k≤j.size)(hc:∀(gg:Nat) (u:Value),cs[gg]?=some u→j[gg]?=some u):RowIn (w.alloc (.cells j e)) w.heap.size 0 cap k cs :=
 ⟨j,e,0,0,Wi _ _,J,λi _ _=>J,λgg u hj=>by rw[Is];exact hc gg u hj⟩
variable {P : Program}
def zr0(w:World)(t e C:TypeId)(D g j:Value)(E:P.underlying t=some (.slice e))(F:∀w,(zeroValue e).run P w=.ok D w)(G:D.cells=#[g,j])(K:g.oneCell'=true)(L:j.oneCell'=true)(b o c:Nat)
  (H:∀B,B<2→(w.cell? ⟨b,o+B,none⟩).isSome=true) (I:∀B,B<2→w.frozen? ⟨b,o+B,none⟩=false) :
  (Builtin.clear_ #[t] C #[.slice (some ⟨b,o,none⟩) 1 c]).run P w=.ok (.tuple #[]) (w.setCells b o [g,j]):=by
 have A:(Builtin.zeroCells D.cells 1).toList=[g,j]:=by
  rw[G];simp[Builtin.zeroCells];rfl
 have p:=run_storeCells_cells (P:=P) b o [g,j] 0 w D4 (by simpa using I) (by intro v z;simp at z;rcases z with rfl|rfl<;>assumption);simp only[Kq]at p;simp[Builtin.clear_,run_underlying E,F,A,p]
def wx(w:World)(G K L g:TypeId)(b o j A:Nat)(a:Addr)(p B k:Nat)(z:List Value)
  (hu:P.underlying G=some (.slice g)) (H:(P.info? g).map (·.size)=some k) (M:z.length=Nat.min p j*k)
  (C:∀D v,z[D]?=some v→w.cell? (a.add D)=some v) (N:∀D,D<z.length→(w.cell? ⟨b,o+D,none⟩).isSome=true) (O:∀D,D<z.length→w.frozen? ⟨b,o+D,none⟩=false) (Q:∀v∈z,v.oneCell'=true) :
  (Builtin.copy_ #[G,K] L #[.slice (some ⟨b,o,none⟩) j A,.slice (some a) p B]).run P w=.ok (goInt (Nat.min p j)) (w.setCells b o z):=by
 have I:=run_loadCells_list (P:=P) w a z C;have E:=run_storeCells_cells (P:=P) b o z 0 w (by simpa using N) B6 Q;cases F:P.info? g with
 |none=>simp[F]at H
 |some i =>
  have R:i.size=k:=by simpa [F] using H
  rw[M]at I;simp[Builtin.copy_,run_underlying hu,Builtin.lenOf,Builtin.firstCells,sizeOf,typeInfo,F,R,I,E]
def zcs{ops:Array Oper}{o:Oper}{a:Act}{w:World}{E:Act→World→Prop}{F:Exit→Act→World→Prop}
  (z:o.guard=none) (d x:Operand) (j p:TypeId) (g:o.op=Op.call { callee:=Callee.builtin Builtin.copy,args:=#[d,x],argTypes:=#[j,p] })
  (v u:Value) (hd:a.eval d=v) (A:a.eval x=u) (C:(Builtin.copy_ #[j,p] o.type #[v,u]).run P w=.ok Y B) (D:E (a.put o.dst Y) B) :
  if Region.wanted o (yielded ops a.tmps)=true then Oper.wp P o a w E F else vL:=by
 have hw:Region.wanted o (yielded ops a.tmps)=true:=by simp[Region.wanted,z]
 rw[Hs hw];unfold Oper.wp;simp[execOp,g,resolve,invoke,builtin,hd,A,C,Result.andThen];exact D
def z4o(w:World){ops:Array Oper}{g:List Oper}{o:Oper}{a:Act}{E:Exit→Act→World→Prop}(j:o.guard=none)(d s:Operand)(t p:TypeId)
  (z:o.op=.call { callee:=.builtin .copy,args:=#[d,s],argTypes:=#[t,p] }) (v u:Value) (hd:a.eval d=v) (A:a.eval s=u)
  (C:(Builtin.copy_ #[t,p] o.type #[v,u]).run P w=.ok Y B) (h:wpList P ops E g (a.put o.dst Y) B):wpList P ops E (o::g) a w:=by
 refine wpList_plain j λF D=>?_
 unfold Oper.wp execOp;simp only[z,resolve,invoke,builtin,Sem.run_bind,Sem.run_pure,Result.andThen_ok,List.map_toArray,Kd,L7,hd,A,C];exact D _ _ h
def zeq(w:World)(E V e:TypeId)(F:P.underlying E=some (.slice e))(g:Nat)(G:∀w,(Go.sizeOf e).run P w=.ok g w)
  (a b:Addr) (H X I Y:Nat) (K:a.block≠b.block) (tA tB:TypeId) (L M:Nat)
  (z:w.shape? a.block=some (tA,L)) (A:w.shape? b.block=some (tB,M)) (R:L≠0) (S:M≠0) (B:w.frozen? a=false) :
  ∃r D,(Extern.SlicesOverlaps.overlaps #[E,E] #[V] #[.slice (some a) H X,.slice (some b) I Y]).run P w=.ok (.bool r) D∧D.heap=w.heap∧D.os=w.os∧D.tape=w.tape∧D.output=w.output:=by
 have C:(a.block != b.block)=true:=Cj
 have p:(a.block==b.block)=false:=Cj
 have j:∀r D,Sem.run P (α:=Value) (do
   let some t := (#[E, E] : Array TypeId)[0]? | stuck "slices.overlaps: no parameter types"
   let .slice N ← underlying t | stuck "slices.overlaps: slice type expected"
   let g ←sizeOf N
   match (some a:Option Addr),(some b:Option Addr) with
   |some a,some b =>
    if H=0∨I=0∨g=0 then pure (Value.bool false)
    else if a.block != b.block&&(←frozen a)&&(←frozen b) then unsupported .addressObserved
    else do
     if a.block != b.block then do
      noView a;noView b
      if ← mayBeOne a b then return Value.bool ((← choose (.extern "sameAddr.stringBytes" 2)) == 1)
     pure (Value.bool (a.block==b.block&&a.off<b.off+I*g&&b.off<a.off+H*g))
   |_,_=>pure (Value.bool false)) w=.ok (.bool r) D→(Extern.SlicesOverlaps.overlaps #[E,E] #[V] #[.slice (some a) H X,.slice (some b) I Y]).run P w=.ok (.bool r) D:=λ_ _ h=>h
 by_cases O:H=0∨I=0∨g=0
 ·exact⟨false,w,j _ _ (by simp[run_underlying F,G,O]),rfl,rfl,rfl,rfl⟩
 ·cases L with
  |zero=>exact absurd rfl R
  |succ L =>
  cases M with
  |zero=>exact absurd rfl S
  |succ M =>
  cases Q:w.frozen? { block:=a.block,off:=L+1 } with
  |false=>exact⟨false,w,j _ _ (by simp[run_underlying F,G,O,C,p,frozen,noView,viewAt,mayBeOne,stringish,shape,Sem.run,z,A,B,Q]),rfl,rfl,rfl,rfl⟩
  |true =>
   cases T:w.frozen? b with
   |true=>exact⟨_,w.drew,j _ _ (by simp[run_underlying F,G,O,C,p,frozen,noView,viewAt,mayBeOne,stringish,shape,Sem.run,z,A,B,Q,T,choose,Question.forced];rfl),rfl,rfl,rfl,rfl⟩
   |false =>
    cases Z:w.frozen? { block:=b.block,off:=M+1 } with
    |false=>exact⟨false,w,j _ _ (by simp[run_underlying F,G,O,C,p,frozen,noView,viewAt,mayBeOne,stringish,shape,Sem.run,z,A,B,Q,T,Z]),rfl,rfl,rfl,rfl⟩
    |true=>exact⟨_,w.drew,j _ _ (by simp[run_underlying F,G,O,C,p,frozen,noView,viewAt,mayBeOne,stringish,shape,Sem.run,z,A,B,Q,T,Z,choose,Question.forced];rfl),rfl,rfl,rfl,rfl⟩
def z8k(b:Nat)(g:List Value)(o:Nat)(w:World)(h:∀z,z<g.length→(w.cell? ⟨b,o+z,none⟩).isSome=true)(k:Nat)(j:(w.cell? ⟨b,k,none⟩).isSome=true):((w.setCells b o g).cell? ⟨b,k,none⟩).isSome=true:=by
 by_cases p:o≤k∧k<o+g.length
 ·have:=World.cell?_setCells_in b g o w h (k-o) J;rw[(J:o+(k-o)=k)]at this;rw[this];rfl
 ·rw[World.cell?_setCells_out b g o w ⟨b,k,none⟩ (λ_ _=>by show k<o∨o+g.length≤k;omega)];exact j
def Rel.rowTo{w0 w w':World}{gE:CM}{H:Heap}(hR:Rel w0 gE H w){o v:Nat}{t:Tr AV}(hg:H.get o=some (.cells t j v false)){L:Loc}(hL:gE o v=some L){b' k n':Nat}{l':List AV}
  (ht:Turn w w' L.b) (gA:RowIn w' b' C vX k vO) (gB:b'=L.b∨w.heap.size≤b') (hn:n'≤vX) (hl:l'.length=n'*k) (hv:VRs gE l' vO) (h1:∀a∈l',a.one=true) :
  ∃C',gE.le C'∧Rel w0 C' (H.put o (.cells (Ou l' 0 .e) l'.length (v+1) false)) w'∧VR C' (.sl o (v+1) 0 n' k none) (.slice (some ⟨b',C,none⟩) n' vX):=by
 have ho:=hR.fresh _ _ _ hL;have hB:w0.heap.size≤L.b:=(hR.obj o _ ho hg L hL).2.1 rfl;have gH:=hR.lt _ _ _ hL;have hmul:n'*k≤vX*k:=Hy _ hn;obtain⟨vs,e,lo,hi,q1,q2,q3,q4⟩:=gA.has;have gF:w0.heap.size≤b':=by
  rcases gB with rfl|h
  ·exact hB
  ·exact Ix hR.low.size h
 have gC:∀o' v' L1,o'≠o→gE o' v'=some L1→L1.b≠L.b:=λo' v' L1 gg h hb=>gg (hR.excl _ _ _ _ _ _ h hL hb (by rw[hb];exact hB))
 obtain⟨r1,r2⟩:=hR.bump ho ⟨v,L,hL⟩ hg ⟨b',C,l'.length,C+vX*k⟩ (Ou l' 0 .e) l'.length (w':=w')
  (hR.low.trans ⟨ht.os,ht.tape,ht.output,ht.size,λgG hj=>ht.block gG (Ik hj hR.low.size) J⟩) ht.size (Le.1 q1).1
  (λo' v' L1 h hb=>by
   rcases gB with rfl|gI
   ·by_cases e1:o'=o
    ·exact e1
    ·exact absurd hb (gC o' v' L1 e1 h)
   ·have:=hR.lt _ _ _ h;dsimp only at hb;omega)
  (λo' v' L1 gg h=>ht.block L1.b (hR.lt _ _ _ h) (gC o' v' L1 gg h))
  (by
   intro L1 gD;rw[CM.ext_same]at gD;cases gD;refine⟨rfl,λ_=>gF,Aq,vs,e,lo,hi,q1,q2,q3,?_⟩;intro gG hj;rw[get_ofList l' 0 .e gG,Hs J];obtain⟨a,u,p1,p2,p3⟩:=hv.get' (i:=gG) hj;have hle:gE.le (gE.ext o (v+1) ⟨b',C,l'.length,C+vX*k⟩):=by
    refine CM.le_ext _ ?_ (.inl ⟨v,L,hL⟩);cases e1:gE o (v+1) with
    |none=>rfl
    |some L2=>have:=hR.top _ _ _ _ _ ho hg _ _ e1;omega
   exact⟨a,by simpa using p1,h1 a (Im p1),u,q4 gG u p2,p3.mono hle⟩)
 refine⟨_,r2,r1,?_⟩;exact VR.sl (i:=0) (L:=⟨b',C,l'.length,C+vX*k⟩) (CM.ext_same _ _ _ _) Aq Aq hn (λr hr=>by cases hr) (λ_=>rfl)
def Rel.rowIn{w0 w:World}{gA:CM}{H:Heap}(hR:Rel w0 gA H w)(P:Program){o v:Nat}{t:Tr AV}(hg:H.get o=some (.cells t j v false)){L:Loc}(hL:gA o v=some L){len cap k:Nat}{l:List AV}
  (hr:Pa H o v 0 (len*k)=some l) (hc:L.d+cap*k≤L.sz):∃C,RowIn w L.b L.d cap k C∧VRs gA l C∧(∀a∈l,a.one=true)∧C.length=len*k∧(∀u∈C,u.oneCell'=true):=by
 obtain⟨vs,_,p2,p3,p4,_,p6⟩:=hR.read P hr hL;obtain⟨h1,_,h3,gg,e,lo,hi,h4,h5,h6,h7⟩:=hR.obj o _ (hR.fresh _ _ _ hL) hg L hL;have hl:vs.length=len*k:=by rw[←p2.length];exact p4
 refine⟨vs,⟨gg,e,lo,hi,h4,J,λi a b=>h6 i a J,λgC u hj=>?_⟩,p2,p3,hl,p2.one p3⟩;have gB:=(Hf.1 hj).1;have:=p6 gC J;rw[fy h4,hj,Is]at this;exact this
def jy.of_calls{w0 w:World}{gg:CM}{f:Nat}{vs:List Value}{v:AV}{H':Heap}{gA:Ending→World→Prop}(h:Calls P f vs.toArray w gA)
  (hR:∀e C,gA e C→∃R v',e=.returned v'∧gg.le R∧Rel w0 R H' C∧VR R v v'):jy P w0 gg w (.fn f) vs v H':=by
 intro cs;obtain⟨e,C,fr,q1,q2,q3,q4⟩:=h cs;obtain⟨R,v',rfl,p1,p2,p3⟩:=hR e C q1;exact⟨R,C,v',fr,p1,p2,p3,q2,q3,q4⟩
end
def pk{H:List Hl}{i:Nat}(h:i<H.length):(Mu H)[i*2]?=some (.i (gs H i).1):=by
 have:=Sy (f:=Ng) (k:=2) (λ_=>rfl) (Uh h) (j:=0) J;simpa [Mu,Ng] using this
def zci{H:List Hl}{i:Nat}(h:i<H.length):(Mu H)[i*2+1]?=some (.i (gs H i).2):=by
 have:=Sy (f:=Ng) (k:=2) (λ_=>rfl) (Uh h) (j:=1) J;simpa [Mu,Ng] using this
def zol{i:Nat}(h:i<vV.length):((Mu vV).drop (i*2)).take 2=Ng (gs vV i):=ld (f:=Ng) (k:=2) (λ_=>rfl) (Uh h)
def ga(g:List Hl)(h:Hl)(i:Nat):(Mu g).take (i*2)++Ng h++(Mu g).drop (i*2)=Mu (g.take i++h::g.drop i):=by
 unfold Mu;rw[mj (k:=2) (λ_=>rfl),sy (k:=2) (λ_=>rfl)];simp
def zv7(H:List Hl)(i:Nat):(Mu H).take (i*2)++(Mu H).drop ((i+1)*2)=Mu (H.take i++H.drop (i+1)):=by
 unfold Mu;rw[mj (k:=2) (λ_=>rfl),sy (k:=2) (λ_=>rfl)];simp
def zuq{i:Nat}(h:i<vV.length)(x:Hl):Mu (vV.set i x)=(Mu vV).take (i*2)++Ng x++(Mu vV).drop ((i+1)*2):=by
 unfold Mu;rw[mj (k:=2) (λ_=>rfl),sy (k:=2) (λ_=>rfl),I5,Hs h];simp
def Xb{i:Nat}(h:i<vV.length)(x:Int):M5 (Mu vV) (i*2) [.i x]=Mu (vV.set i (x,(gs vV i).2)):=by
 rw[zuq h];unfold M5;have g:=zci h;have j:=se vV;have e:(Mu vV).drop (i*2+1)=.i (gs vV i).2::(Mu vV).drop ((i+1)*2):=by
  rw[If J,(J:(i+1)*2=i*2+1+1)];rw[Hj J]at g;rw[Option.some.inj g]
 show _++(Mu vV).drop (i*2+1)=_;rw[e];simp[Ng]
def Ys{H:List Hl}{i:Nat}(h:i<H.length)(y:Int):M5 (Mu H) (i*2+1) [.i y]=Mu (H.set i ((gs H i).1,y)):=by
 rw[zuq h];unfold M5;have g:=pk h;have j:=se H;have e:(Mu H).take (i*2+1)=(Mu H).take (i*2)++[.i (gs H i).1]:=by
  rw[Lq,g];rfl
 show _++(Mu H).drop (i*2+1+1)=_;rw[e,(J:i*2+1+1=(i+1)*2)];simp[Ng]
def zj7{n:Int}:∀(g:List Hl),(∀j,j<g.length→(gs g j).2-(gs g j).1<n)→Vk n g=none
 |[],_=>rfl
 |h::g,p=>by
  have z:=p 0 U;have:(gs (h::g) 0)=h:=rfl;rw[this]at z;unfold Vk;rw[Hs z,zj7 g (λj A=>by have:=p (j+1) Du;simpa [gs] using this)]
def zq8{n:Int}:∀(g:List Hl) (i:Nat),i<g.length→(∀j,j<i→(gs g j).2-(gs g j).1<n)→¬((gs g i).2-(gs g i).1<n) →
  Vk n g=some ((gs g i).1,g.take i++(if (gs g i).1+n=(gs g i).2 then g.drop (i+1) else ((gs g i).1+n,(gs g i).2)::g.drop (i+1)))
 |[],_,h,_,_=>B8
 |h::g,0,_,_,hw=>by
  have:(gs (h::g) 0)=h:=rfl;rw[this]at hw ⊢;unfold Vk;rw[Hq hw];rfl
 |h::g,i+1,A,p,hw=>by
  have z:=p 0 J;have B:(gs (h::g) 0)=h:=rfl;have C:gs (h::g) (i+1)=gs g i:=by simp[gs]
  rw[B]at z;rw[C]at hw ⊢;unfold Vk;rw[Hs z,zq8 g i Du (λj D=>by have:=p (j+1) J;simpa [gs] using this) hw];simp
def zpi{i:Nat}(h:i+1<vV.length):vV.drop i=gs vV i::gs vV (i+1)::vV.drop (i+2):=by
 have g:=Uh (l:=vV) (n:=i) J;have j:=Uh h;rw[Hj J]at g j;rw[If J,If (J:i+1<vV.length),Option.some.inj g,Option.some.inj j]
def zrw{H:List Hl}{i:Nat}(h:i+1<H.length)(g:(gs H i).2≠(gs H (i+1)).1):H.take (i+1)++Rq (H.drop (i+1))=H.take i++Rq (H.drop i):=by
 have p:=Uh (l:=H) (n:=i) J;have z:H.drop (i+1)=gs H (i+1)::H.drop (i+2):=by
  have j:=Uh h;rw[Hj J]at j;rw[If (J:i+1<H.length),Option.some.inj j]
 rw[zpi h]
 conv=>rhs;rw[Rq]
 rw[Hq g,←z,Lq,p];simp
def zr6{H:List Hl}{i:Nat}(h:i+1<H.length)(j:(gs H i).2=(gs H (i+1)).1) :
  (((H.set i ((gs H i).1,(gs H (i+1)).2)).take (i+1)++(H.set i ((gs H i).1,(gs H (i+1)).2)).drop (i+1+1)).take i++Rq (((H.set i ((gs H i).1,(gs H (i+1)).2)).take (i+1)++(H.set i ((gs H i).1,(gs H (i+1)).2)).drop (i+1+1)).drop i))=H.take i++Rq (H.drop i):=by
 have p:(H.set i ((gs H i).1,(gs H (i+1)).2)).take (i+1)++(H.set i ((gs H i).1,(gs H (i+1)).2)).drop (i+1+1)=H.take i++((gs H i).1,(gs H (i+1)).2)::H.drop (i+2):=by
  rw[List.drop_set_of_lt J,Lq,L4 J,Hi J];simp
 rw[p,zpi h]
 conv=>rhs;rw[Rq]
 rw[Hs j];have g:(H.take i).length=i:=Bb
 rw[J1 g,List.drop_left' g]
def zu2{H:List Hl}{i:Nat}(h:H.length≤i+1):H.take i++Rq (H.drop i)=H:=by
 have g:Rq (H.drop i)=H.drop i:=by
  match hd:H.drop i with
  |[]=>unfold Rq;rfl
  |[x]=>unfold Rq;rfl
  |x::y::l =>
   have:=congrArg List.length hd;rw[Iw]at this;simp at this;omega
 rw[g,H9]
section
variable {f : Int → Int}
def kTo(f:Int→Int)(l:List Int)(a b:Nat):Prop:=∀u v,a≤u→u<v→v<b→f (gd l u)≤f (gd l v)
def Xk(f:Int→Int)(l:List Int)(a i g:Nat):Prop:=∀u v,a≤u→u<v→v≤i→v≠g→f (gd l u)≤f (gd l v)
def X7{l:List Int}{a i:Nat}(G:a<g)(H:g≤i)(I:i<l.length)(z:Xk f l a i g)(F:f (gd l g)<f (gd l (g-1))):Xk f (ay l g) a i (g-1):=by
 intro u v D A B C;rw[zk8 J J,zk8 J J];by_cases j:v=g
 ·rw[Hs j];by_cases p:u=g-1
  ·rw[Hq J,Hs p];omega
  ·rw[Hq J,Hq p];exact z u (g-1) D J J J
 ·rw[Hq j,Hq C];by_cases E:u=g
  ·rw[Hs E];exact z (g-1) v J J B j
  ·rw[Hq E];by_cases p:u=g-1
   ·rw[Hs p];exact z g v J J B j
   ·rw[Hq p];exact z u v D A B j
def X4{l:List Int}{a i:Nat}(A:g≤i)(p:Xk f l a i g)(h:g=a∨f (gd l (g-1))≤f (gd l g)):kTo f l a (i+1):=by
 intro u v z j B;by_cases e:v=g
 ·subst e;rcases h with h|h
  ·omega
  ·by_cases e:u=v-1
   ·rw[e];exact h
   ·exact Lr (p u (v-1) z J J J) h
 ·exact p u v z j J e
def zsx{l:List Int}{a i:Nat}(h:kTo f l a i):Xk f l a i i:=λu v j g z p=>h u v j g J
def Yt{l:List Int}(G:0<g)(h:g<l.length):(ay l g).Perm l:=by
 have p:l=l.take (g-1)++gd l (g-1)::gd l g::l.drop (g+1):=by
  have z:=Po (l:=l) (u:=g-1) J;have A:=Po h;rw[Hj J]at z A;have j:l.drop (g-1)=l[g-1]::l[g]::l.drop (g+1):=by
   have:=If (l:=l) (i:=g) h;rw[If (J:g-1<l.length),(J:g-1+1=g),this]
  rw[←Option.some.inj z,←Option.some.inj A,←j,H9]
 obtain⟨E,x,y,F,j,B,C,D⟩:∃(E:List Int) (x y:Int) (F:List Int),l=E++x::y::F∧E.length=g-1∧gd l (g-1)=x∧gd l g=y :=
  ⟨_,_,_,_,p,Bb,rfl,rfl⟩
 unfold ay;rw[C,D];clear C D p;subst j;rw[Jb _ _ J,B,(J:g-(g-1)=1)];rw[Jb _ _ J,B,Lf];simp only[List.set_cons_succ,Lm];exact List.Perm.append_left _ (List.Perm.swap ..)
def zfa{X Y:List Int}{u:Nat}(h:u<X.length):gd (X++Y) u=gd X u:=by
 simp only[gd,Hr];rw[Hk h]
def uw{X Y:List Int}{u:Nat}(h:X.length≤u):gd (X++Y) u=gd Y (u-X.length):=by
 simp only[gd,Hr];rw[H5 h]
end
def Zt{l:List Int}(h:l.Perm (v7.map λ(v:Nat)=>(v:Int))):∃o:List Nat,l=o.map (λ(v:Nat)=>(v:Int))∧o.Perm v7:=by
 refine⟨l.map Int.toNat,?_,?_⟩
 ·rw[List.map_map];refine (List.map_id l).symm.trans (List.map_congr_left λx g=>?_);obtain⟨v,_,rfl⟩:=Li.1 (h.mem_iff.1 g);simp
 ·have:=h.map Int.toNat;rw[List.map_map]at this;refine this.trans (List.Perm.of_eq ?_);refine (List.map_congr_left λx _=>?_).trans (List.map_id v7);simp
def Yz{f:Int→Int}{l:List Int}(h:kTo f l 0 l.length):l.Pairwise λx y=>f x≤f y:=by
 rw[J4];intro i z p j g;have:=h i z J g j;simpa [gd,p,j] using this
def Qk(vs:List Vr)(n:Nat):List Nat:=(List.range n).filter λv=>decide ((gv vs v).mode=0)
def xj(vs:List Vr)(n:Nat):Qk vs (n+1)=Qk vs n++if (gv vs n).mode=0 then [n] else []:=by
 unfold Qk;rw[List.range_succ,List.filter_append];by_cases h:(gv vs n).mode=0<;>simp[h]
def zba{vs:List Vr}{n v:Nat}:v∈Qk vs n↔v<n∧(gv vs v).mode=0:=by simp[Qk]
def zdn(vs:List Vr)(n:Nat):(Qk vs n).length≤n:=by
 have:=Lt (λv=>decide ((gv vs v).mode=0)) (List.range n);simpa [Qk] using this
def zkw(g:List Vr)(n:Nat):(Qk g n).Nodup:=(List.nodup_range (n:=n)).sublist List.filter_sublist
section
def ud(l:List Int)(a b:Nat):List Int:=(l.set a (gd l b)).set b (gd l a)
def wi{A Y:List Int}{x:Int}{n:Nat}(h:n=A.length):gd (A++x::Y) n=x:=by
 subst h;rw[uw (Hm _)];simp[gd]
def zuy{A X Y:List Int}{x y:Int}{n:Nat}(h:n=A.length+1+X.length):gd (A++x::(X++y::Y)) n=y:=by
 have:=wi (A:=A++x::X) (x:=y) (Y:=Y) (n:=n) Ab;simpa using this
def zv3{A X Y:List Int}{x y:Int}{a b:Nat}(g:a=A.length)(j:b=A.length+1+X.length):ud (A++x::(X++y::Y)) a b=A++y::(X++x::Y):=by
 unfold ud;rw[wi g,zuy j,g,j];rw[Jb _ _ J,Lf,Lm,Jb _ _ J,(J:A.length+1+X.length-A.length=X.length+1),List.set_cons_succ,Jb _ _ (Hm _),Lf,Lm]
def eq{A Y:List Int}{x y:Int}(p:g=A.length+1):ay (A++x::y::Y) g=A++y::x::Y:=by
 unfold ay;subst p;have z:=wi (A:=A) (x:=x) (Y:=y::Y) (n:=A.length) rfl;have j:=zuy (A:=A) (x:=x) (X:=[]) (y:=y) (Y:=Y) (n:=A.length+1) U;simp only[J2]at j;rw[(J:A.length+1-1=A.length),z,j];rw[Jb _ _ J,(J:A.length+1-A.length=1)];rw[Jb _ _ J,Lf];rfl
section k
variable {k : Int → Int}
def Nq.take_le{l:List Int}(h:Nq k l){t:Nat}(ht:t<l.length):∀y∈l.take (t+1),k y≤k (gd l t):=by
 intro y hy;rw[List.mem_take_iff_getElem]at hy;obtain⟨i,hi,rfl⟩:=hy;have e:gd l t=l[t]:=by simp[gd,ht]
 rw[e];by_cases q:i=t
 ·subst q;exact Jl _
 ·exact J4.1 h i t J ht J
def Nq.drop_ge{l:List Int}(h:Nq k l){t:Nat}(ht:t<l.length):∀y∈l.drop t,k (gd l t)≤k y:=by
 intro y hy;rw[List.mem_drop_iff_getElem]at hy;obtain⟨i,hi,rfl⟩:=hy;have e:gd l t=l[t]:=by simp[gd,ht]
 rw[e];by_cases q:i=0
 ·subst q;exact Jl _
 ·exact J4.1 h t (t+i) ht J J
def zlb{l:List Int}{n:Nat}(h:n≤l.length){u:Int}(hu:(l.take n).getLast?=some u):0<n∧u=gd l (n-1):=by
 rcases Nat.eq_zero_or_pos n with e|e
 ·subst e;simp at hu
 ·refine⟨e,?_⟩;rw[List.getLast?_eq_getElem?,H4,I2 h,Ij J]at hu;simp[gd,hu]
def zm2{l:List Int}{n:Nat}{w:Int}(hw:(l.drop n).head?=some w):n<l.length∧w=gd l n:=by
 rw[List.head?_eq_getElem?,J9,Kq]at hw;have:=(Hf.1 hw).1;exact⟨this,by simp[gd,hw]⟩
def ww{g:List Int}(j:Nq k R)(p:Nq k g){s e:Nat}(z:s≤R.length)(A:e≤g.length)
  (B:s=0∨e=g.length∨k (gd R (s-1))≤k (gd g e)) (C:e=0∨s=R.length∨k (gd g (e-1))≤k (gd R s)) :
  ∀u∈R.take s++g.take e,∀w∈R.drop s++g.drop e,k u≤k w:=by
 refine rh (k:=k) (by rw[H9];exact j) (by rw[H9];exact p) (λu w hu hw=>?_) λu w hu hw=>?_
 ·obtain⟨D,rfl⟩:=zlb z hu;obtain⟨E,rfl⟩:=zm2 hw;rcases B with h|h|h
  ·omega
  ·omega
  ·exact h
 ·obtain⟨D,rfl⟩:=zlb A hu;obtain⟨E,rfl⟩:=zm2 hw;rcases C with h|h|h
  ·omega
  ·omega
  ·exact h
def Nq.take{l:List Int}(h:Nq k l)(n:Nat):Nq k (l.take n):=List.Pairwise.sublist (List.take_sublist ..) h
def Nq.drop{l:List Int}(h:Nq k l)(n:Nat):Nq k (l.drop n):=List.Pairwise.sublist (List.drop_sublist ..) h
def Nq.kTo{l:List Int}(h:Nq k l):kTo k l 0 l.length:=by
 intro u v _ gg hv;have:=J4.1 h u v J hv gg;simpa [gd,(J:u<l.length),hv] using this
end k
end
section
section del
variable {b : Nat} {G : Mh} {v : LV} {n : Nat} {l : List LV}
def zke{i:Nat}{x:LV}(h:i<Z.length):M5 Z i [x]=Z.set i x:=by
 unfold M5;rw[I5,Hs h];simp
def M4.ixw1(h:M4 b G v 1 n l){i:Int}(h0:0≤i)(hi:i<n){K:LV→Prop}
  (k:∀(gA p:Nat) (gg:List LV) (m st:Nat),Q5 v=some gA→G[gA]?=some (.dyn gg m 1 p st)→i.toNat+1≤gg.length→(∀(x:LV) (R:Nat),x.dat=true→M4 b (G.set gA (.dyn (M5 gg i.toNat [x]) m 1 p R)) v 1 n (l.set i.toNat x))→K (.dptr gA p i.toNat)):Wh G 1 v i K:=by
 have key:∀(gg:List LV) (x:LV),dats gg=true→x.dat=true→i.toNat<gg.length→dats (M5 gg i.toNat [x])=true:=λgg x hd hx _=>ux hd (by simp[dats,hx])
 rcases h with ⟨rfl,rfl,rfl⟩|⟨gA,p,gg,m',st,h1,h2,h3,h4,rfl,hd,⟨rfl,rfl⟩|rfl⟩
 ·omega
 ·rw[zqq,h2];have hp:=(Hf.1 h2).1;refine⟨rfl,rfl,h0,hi,?_⟩;rw[Kk];refine k _ _ _ _ _ rfl h2 J λx R hx=>.inr ⟨gA,p,_,_,_,h1,Hi hp,?_,Hm _,?_,key gg x hd hx J,.inl ⟨rfl,rfl⟩⟩
  ·rw[zke J,Js];exact h3
  ·rw[zke J,List.take_set]
 ·rw[zq,h2];have hp:=(Hf.1 h2).1;refine⟨rfl,rfl,h0,hi,?_⟩;rw[Is,Kk];refine k _ _ _ _ _ rfl h2 J λx R hx=>.inr ⟨gA,p,_,_,_,h1,Hi hp,?_,h4,?_,key gg x hd hx J,.inr rfl⟩
  ·rw[zke J,Js];exact h3
  ·rw[zke J,List.take_set]
def zkp{g:LV}:∀n,(M7 [g] n).length=n
 |0=>rfl
 |n+1=>by simp[M7,zkp n]
def zhc{g:LV}(h:g.dat=true):∀n,dats (M7 [g] n)=true
 |0=>rfl
 |n+1=>by simp[M7,dats,h,zhc h n]
def M4.tail1(h:M4 b G v 1 n l){i:Nat}(hi:i≤n)(hr:Q5 v≠none){lo:(Nat→Prop)→Prop}{gA:Nat→(Nat→Prop)→Prop}(gB:∀K':Nat→Prop,K' i→lo K')(gC:∀(K':Nat→Prop),K' n→gA n K'){K:LV→Prop}
  (k:∀(gD p:Nat) (gg:List LV) (m st:Nat),Q5 v=some gD→G[gD]?=some (.dyn gg m 1 p st)→i+(n-i)≤gg.length→(∀(R:Nat),M4 b (G.set gD (.dyn (M5 gg i (M7 [.i 0] (n-i))) m 1 p R)) v 1 n (l.take i++M7 [.i 0] (n-i)))→K (.vw gD p i (n-i))):Wn G 1 v lo gA K:=by
 have key:∀(gg:List LV) (m:Nat),n≤gg.length→(M5 gg i (M7 [.i 0] (n-i))).length=gg.length∧(M5 gg i (M7 [.i 0] (n-i))).take n=(gg.take n).take i++M7 [.i 0] (n-i):=by
  intro gg m hR;unfold M5;have e:(gg.take i++M7 [LV.i 0] (n-i)).length=n:=by rw[Hv,H4,zkp];omega
  refine⟨?_,?_⟩
  ·rw[Hv,e,Iw,zkp];omega
  ·rw[J1 e,Km,I2 hi]
 rcases h with ⟨rfl,rfl,rfl⟩|⟨gD,p,gg,m',st,h1,h2,h3,h4,rfl,hd,⟨rfl,rfl⟩|rfl⟩
 ·exact absurd rfl hr
 ·rw[slL_dy,h2];have hp:=(Hf.1 h2).1;refine⟨rfl,rfl,gB _ (gC _ ⟨J,Hm _,?_⟩)⟩;obtain⟨k1,k2⟩:=key gg n J;refine k _ _ _ _ _ rfl h2 J λR=>.inr ⟨gD,p,_,_,_,h1,Hi hp,by rw[k1];exact h3,Hm _,by rw[Kk,k2],ux hd (zhc rfl _),.inl ⟨rfl,rfl⟩⟩
 ·rw[slL_vw,h2];have hp:=(Hf.1 h2).1;refine⟨rfl,rfl,gB _ (gC _ ⟨J,Hm _,?_⟩)⟩;obtain⟨k1,k2⟩:=key gg m' J;rw[Is];refine k _ _ _ _ _ rfl h2 J λR=>.inr ⟨gD,p,_,_,_,h1,Hi hp,by rw[k1];exact h3,h4,by rw[Kk,k2],ux hd (zhc rfl _),.inr rfl⟩
end del
end
section
def ztu{f:v9→List LV}{k:Nat}(g:∀a,(f a).length=k){l:List v9}{i:Nat}(x:v9)(h:i<l.length):M5 (l.flatMap f) (i*k) (f x)=(l.set i x).flatMap f:=by
 unfold M5;rw[g,mj g,(C5:i*k+k=(i+1)*k),sy g,I5,Hs h,List.flatMap_append,Jy,H7]
def joinL_len:∀(n:Nat) (j:List Hl),j.length≤n→(Rq j).length≤j.length
 |_,[],_=>by unfold Rq;exact Hm _
 |_,[x],_=>by unfold Rq;exact Hm _
 |0,_::_::_,g=>by simp at g
 |n+1,(z,B)::(A,p)::j,g=>by
  unfold Rq;split
  ·have:=joinL_len n ((z,p)::j) (by simp at g ⊢;omega);simp at this ⊢;omega
  ·have:=joinL_len n ((A,p)::j) (by simp at g ⊢;omega);simp at this ⊢;omega
def zt7(i j:Nat)(h:Hl)(g:List Hl):(cf i j h g).length≤g.length+1:=by
 unfold cf;have e:(g.take i++h::g.drop i).length=g.length+1:=Ab
 have:=joinL_len _ ((g.take i++h::g.drop i).drop j) (Hm _);rw[Hv,H4];rw[Iw]at this;omega
def zlz{n:Int}:∀(j:List Hl) (a:Int) (g:List Hl),Vk n j=some (a,g)→g.length≤j.length
 |[],_,_,h=>Al
 |(x,y)::j,a,g,h=>by
  unfold Vk at h;split at h
  ·split at h
   ·cases h
   ·rename_i r p;simp only[Option.some.injEq,Prod.mk.injEq]at h;obtain⟨rfl,rfl⟩:=h;have:=zlz j r.1 r.2 p;simp;exact this
  ·simp only[Option.some.injEq,Prod.mk.injEq]at h;obtain⟨_,rfl⟩:=h;split<;>simp
def zwd(n:Int)(s:St):(Ok n s).2.holes.length≤s.holes.length:=by
 unfold Ok;split
 ·rename_i a g e;exact zlz _ _ _ e
 ·exact Hm _
def znq{l:List Int}(h:∀x∈l,0≤x)(t:Nat):(l.take t).sum≤l.sum:=by
 have e:(l.take t++l.drop t).sum=l.sum:=by rw[H9]
 rw[Ll]at e;have:∀m:List Int,(∀x∈m,0≤x)→0≤m.sum:=by
  intro m
  induction m with
  |nil=>intro _;simp
  |cons y m j =>
   intro hm;have:=j λx g=>hm x (In _ g)
   have:=hm y (Jf ..);simp;omega
 have:=this (l.drop t) λx g=>h x (Jk g)
 omega
def zpp{l m:List Int}(h:l.Perm m):l.sum=m.sum:=by
 induction h with
 |nil=>rfl
 |cons x _ g=>simp[g]
 |swap x y l=>simp;omega
 |trans _ _ j p=>exact j.trans p
section pl
variable {wk : Bool → Int} {a b M1 : Nat → Int} {sec : Nat → Bool} {done busy : List Nat} {iv : Nat → Hl} {ps : Bool → St} {cur cur' : Int}
def Plan0.raise(h:Plan0 wk a b M1 sec done busy iv ps cur)(hc:cur≤cur'):Plan0 wk a b M1 sec done busy iv ps cur' :=
 ⟨h.ok,h.wide,h.nd,h.sub,λv hv hn=>Int.lt_of_lt_of_le (h.over v hv hn) hc,h.pairs,h.inn,h.sz⟩
def Plan0.hole(h:Plan0 wk a b M1 sec done busy iv ps cur)(s:Bool){x:Hl}(hx:x∈(ps s).holes):0≤x.1∧x.1<x.2∧x.2≤(ps s).size:=(h.ok s).2.2 _ (by simp[hx])
def zb7(ps:Bool→St)(s:Bool)(x:St):Rx ps s x s=x:=by simp[Rx]
def zf4(ps:Bool→St){s t:Bool}(x:St)(h:t≠s):Rx ps s x t=ps t:=by simp[Rx,h]
def kj(done busy:List Nat)(ps:Bool→St):Prop:=∀s,(ps s).holes.length+busy.length≤done.length
def kj.give{x y:List Nat}{v:Nat}(h:kj done (x++v::y) ps)(s:Bool)(i j:Nat)(q:Hl)(z:Int):kj done (x++y) (Rx ps s ⟨cf i j q (ps s).holes,z⟩):=by
 intro t;have:=h t;simp at this;by_cases e:t=s
 ·subst e;rw[zb7];have:=zt7 i j q (ps t).holes;dsimp only;simp;omega
 ·rw[zf4 _ _ e];simp;omega
def kj.take{v:Nat}(h:kj done busy ps)(s:Bool)(n:Int):kj (done++[v]) (busy++[v]) (Rx ps s (Ok n (ps s)).2):=by
 intro t;have:=h t;by_cases e:t=s
 ·subst e;rw[zb7];have:=zwd n (ps t);simp;omega
 ·rw[zf4 _ _ e];simp;omega
def zo2{l:List Pc}{i:Nat}(h:i<l.length)(x:Pc)(g:Nat):M3 (l.set i x) g=if g=i then x else M3 l g:=by
 unfold M3;rw[Hr,Ks];by_cases e:i=g
 ·subst e;simp[h]
 ·rw[Hq e,Hq (λq=>e q.symm),Hr]
def fq{l m:List Pc}(h:l.length=m.length)(j:∀i,i<l.length→M3 l i=M3 m i):l=m:=by
 refine List.ext_getElem h λi g p=>?_
 have:=j i g;simpa [M3,g,p] using this
def kb(vs:List Vr)(r:Nat)(iv:Nat→Hl):(Th vs r iv).length=vs.length:=by simp[Th]
def zo0{M1:Nat→Int}{sec:Nat→Bool}{i:Nat}(h:(i:Int)<z):Sb z iv M1 sec i=⟨i,0,M1 i⟩:=by unfold Sb;rw[Hs h]
def zkn{M1:Nat→Int}{sec:Nat→Bool}{i:Nat}(h:¬(i:Int)<z):Sb z iv M1 sec i=⟨z+(if sec i=true then 1 else 0),(iv i).1,M1 i⟩:=by unfold Sb;rw[Hq h]
def fm{M1:Nat→Int}{sec:Nat→Bool}{i v:Nat}{x:Hl}(h:i≠v):Sb z (We iv v x) M1 sec i=Sb z iv M1 sec i:=by
 unfold Sb;split
 ·rfl
 ·simp[We,h]
end pl
end
def Qj(w:Bool→Int)(c:Bool)(n:Int):Bool→Int:=λe=>if e=c then max (w e) n else w e
def Pm(N:Ko→Int)(g:Ko→Bool):(Bool→Int)→List Ko→(Bool→Int)×Bool
 |w,[]=>(w,true)
 |w,o::l=>if o.d<0 then Pm N g w l else if N o=0 then (w,false) else Pm N g (Qj w (!g o) (N o)) l
def Uu:Bool→Int:=λ_=>1
def vq(N:Ko→Int)(g:Ko→Bool):∀(l:List Ko) (w:Bool→Int) (c:Bool),w c≤(Pm N g w l).1 c
 |[],_,_=>Jl _
 |o::l,w,c=>by
  unfold Pm;split
  ·exact vq N g l w c
  ·split
   ·exact Jl _
   ·refine Lr ?_ (vq N g l _ c);unfold Qj;split<;>omega
def zk7(N:Ko→Int)(g:Ko→Bool){m:Int}(j:∀o,N o≤m):∀(l:List Ko) (w:Bool→Int),(∀c,w c≤m)→∀c,(Pm N g w l).1 c≤m
 |[],_,h,c=>h c
 |o::l,w,h,c=>by
  unfold Pm;split
  ·exact zk7 N g j l w h c
  ·split
   ·exact h c
   ·refine zk7 N g j l _ (λe=>?_) c;have:=h e;have:=j o;unfold Qj;split<;>omega
def zf7(N:Ko→Int)(g:Ko→Bool):∀(l:List Ko) (w:Bool→Int),(Pm N g w l).2=true→∀o∈l,0≤o.d→N o≠0∧N o≤(Pm N g w l).1 (!g o)
 |[],_,_,_,h,_=>Al
 |o::l,w,j,x,p,hd=>by
  unfold Pm at j ⊢;split at j
  ·rename_i z;rw[Hs z];rcases Hu.1 p with rfl|p
   ·omega
   ·exact zf7 N g l w j x p hd
  ·rename_i z;rw[Hq z];split at j
   ·cases j
   ·rename_i A;rw[Hq A];rcases Hu.1 p with rfl|p
    ·refine⟨A,Lr ?_ (vq N g l _ _)⟩;unfold Qj;rw[Hs rfl];omega
    ·exact zf7 N g l _ j x p hd
end Go.Sv
