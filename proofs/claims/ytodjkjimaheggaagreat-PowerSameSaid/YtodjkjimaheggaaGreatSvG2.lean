/- Texts of the evaluator, of the logic over it, of plain arithmetic. -/
import Derived.Test.YtodjkjimaheggaaGreatSvG1
import Derived.OpenShut
import Derived.Carry
import Derived.WalkKit
import Derived.ProofKit
import Derived.WideKeyArgs
import Derived.ChangeCalls
set_option linter.unusedSimpArgs false
set_option linter.defProp false
namespace Go.Sv
section res
variable {P : Program} {c : Cx} {G : Ff} {K : LV → Ff → Prop}
def zz9 {d:TypeDesc}{k k':LV}{a j:AV}{b:Bool}(f:AR c k a)(g:AR c k' j)(h:Rd d k k'=some b):j2 d a j=some b:=by
 unfold Rd at h;split at h
 ·cases f;cases g;cases h;simp only[j2,show Rm .i64 .i64=true from rfl,bu]
 ·cases f;cases g;cases h;simp only[j2,show Rm .u64 .u64=true from rfl,bu,zmi]
 ·cases f;cases g;cases h;simp only[j2,zx3]
 ·cases h
def zv0 {d:TypeDesc}{k:LV}{a:AV}(hk:AR c k a){K:Option LV→Prop}:∀{es:List (LV×LV×Nat)} {f:List (AV×AV×Nat)},MRs c es f→kv d k K es→(oh d a f=some none∧K none)∨∃v b,oh d a f=some (some b)∧AR c v b∧K (some v)
 |_,_,.nil,h=>.inl ⟨rfl,h⟩
 |(p,v1,n)::l,_,.cons g j m,h=>by
  simp only[kv] at h;split at h
  ·rename_i b o;have:=zz9 hk g o;simp only[oh,this];cases b with
   |true=>exact .inr ⟨v1,_,rfl,j,h.1 rfl⟩
   |false=>exact zv0 hk m (h.2 rfl)
  ·exact h.elim
def zxo {d:TypeDesc}{k v:LV}{a b:AV}{m:Nat}(hk:AR c k a)(hv:AR c v b):∀{es:List (LV×LV×Nat)} {f:List (AV×AV×Nat)} {K:List (LV×LV×Nat)→Bool→Prop},MRs c es f→Pm d k v m K es→∃r r' new,np d a b m f=some (r',new)∧MRs c r r'∧K r new
 |_,_,K,.nil,h=>⟨_,_,true,rfl,.cons hk hv .nil,h⟩
 |(p,v1,n)::l,_,K,.cons g j o,h=>by
  simp only[Pm] at h;split at h
  ·rename_i t q;have:=zz9 hk g q;simp only[np,this];cases t with
   |true=>exact⟨_,_,false,rfl,.cons hk hv o,h.1 rfl⟩
   |false =>
    obtain⟨r,r',new,s,w,x⟩:=zxo (K:=fun r new=>K ((p,v1,n)::r) new) hk hv o (h.2 rfl);exact⟨_,_,new,by rw[s],.cons g j w,x⟩
  ·exact h.elim
def zyu (l:HSim c G){x:LV}{a:AV}(g:AR c x a){K:List (LV×LV×Nat)→Prop}(h:Qz G x K):∃es d,zy9 c.H a=some d∧MRs c es d∧K es∧(a=.nilMap∧d=[]∨∃o f,a=.map o∧c.H.get o=some (.map d f)):=by
 unfold Qz at h;split at h
 ·cases g;exact⟨[],[],rfl,.nil,h,.inl ⟨rfl,rfl⟩⟩
 ·rename_i p;split at h
  ·rename_i es f st m;cases g with
   | @map _ o e =>
    obtain⟨_,r,d,he,j,q⟩:=l.obj p _ _ _ m e;injection he with he
    subst he;refine⟨es,d,?_,q,h,.inr ⟨o,f,rfl,j⟩⟩;simp only[zy9,j]
  ·exact h.elim
 ·exact h.elim
def zi9 (a:HSim c G)(k:K (.map G.length) (G++[.map [] 0 0])):Kx P c G K (S0 c.H):=by
 unfold S0;obtain⟨d,f,_⟩:=a.push (H':=c.H.push (.map [] 0)) (x:=.map c.H.next) (ob:=.map [] 0 0) (by show c.H.next≤c.H.next+1;omega) (fun o ho=>Heap.get_push_ne _ _ ho) (fun o e=>by cases e;exact⟨Al _,by show c.H.next<c.H.next+1;omega⟩)
  ⟨rfl,c.H.next,[],rfl,Heap.get_push_same _ _,.nil⟩
 exact⟨_,.map G.length,_,rfl,d,f,.map (by rw[←a.len];exact Ax),k⟩
def zzu (g:HSim c G){d:TypeDesc}{m k v:LV}{w x y:AV}(hm:AR c m w)(hk:AR c k x)(hv:AR c v y)(h:mr G d m k v fun G'=>K .any G') :
  Kx P c G K (match (generalizing:=false) w with
   |.map o=>match c.H.get o with
    |some (.map es clock)=>match np d x y clock es with
     |some (f,true)=>.val Km (c.H.put o (.map f (Nat.add clock 1)))
     |some (f,false)=>.val Km (c.H.put o (.map f clock))
     |none=>.no
    |_=>.no
   |_=>.no):=by
 unfold mr at h;split at h
 ·rename_i p;split at h
  ·rename_i es L st j;cases hm with
   | @map _ o e =>
    obtain⟨_,z,f,he,B,C⟩:=g.obj p _ _ _ j e;injection he with he
    subst he;obtain⟨r,r',new,D,E,A⟩:=zxo hk hv C h;have l:o<c.H.next:=g.lt o ⟨p,_,_,_,j,rfl,e,rfl⟩;have fin:∀a,K .any (G.set p (.map r a (st+1)))→Kx P c G K (.val Km (c.H.put o (.map r' a))):=by
     intro a F;obtain⟨H,I,M⟩:=g.upd (k':=0) (x':=.map o) (ob':=.map r a (st+1)) (H':=c.H.put o (.map r' a)) j rfl e (Al _) (fun z _ s=>Heap.get_put_ne _ _ (fun q=>s (by rw[q];rfl))) (fun z J=>by cases J;exact⟨.inl rfl,l⟩) (Al _) (fun _=>rfl) (fun _=>rfl) (.inl (Bx _))
      (fun hle=>⟨rfl,o,r',rfl,Heap.get_put_same _ _ _,E.mono hle⟩)
     exact⟨_,.any,_,rfl,H,I,.any _,F⟩
    simp only[B,D];cases new with
    |true=>exact fin _ A
    |false=>exact fin _ A
  ·exact h.elim
 ·exact h.elim
def HSim.freeze (hs:HSim c G){p k o st:Nat}{x:AV}{ob:LObj}(hG:G[p]?=some ob)(hl:ob.live=true)(ah:ob.st<st)(hp:c.hd[p]?=some (k,x))(ho:Gq x=some o) :
  HSim ⟨c.hd,fun q=>c.Fz q∨q=o,c.H⟩ (G.set p (.dead st))∧Step c G ⟨c.hd,fun q=>c.Fz q∨q=o,c.H⟩ (G.set p (.dead st)):=by
 have aj:p<G.length:=(Aa.1 hG).1;have hle:CxLe c ⟨c.hd,fun q=>c.Fz q∨q=o,c.H⟩:=⟨fun p k h e=>⟨k,h,e,Al _,fun _=>rfl,fun _=>rfl⟩,fun q hq=>⟨.inl hq,rfl⟩⟩;have af:Ij c G o:=⟨p,ob,k,x,hG,hl,hp,ho⟩;have hinv:∀{q:Nat} {aa:LObj},(G.set p (.dead st))[q]?=some aa→(q=p∧aa=.dead st)∨(q≠p∧G[q]?=some aa):=by
  intro q aa e;by_cases hq:q=p
  ·subst hq;rw[Ah aj] at e;cases e;exact .inl ⟨rfl,rfl⟩
  ·rw[Ad (Ne.symm hq)] at e;exact .inr ⟨hq,e⟩
 have ad:∀q,Ij ⟨c.hd,fun q=>c.Fz q∨q=o,c.H⟩ (G.set p (.dead st)) q→Ij c G q∧q≠o:=by
  rintro q ⟨p1,aa,k1,h1,e1,e2,e3,e4⟩;rcases hinv e1 with ⟨_,rfl⟩|⟨ao,e1⟩
  ·cases e2
  ·refine⟨⟨p1,aa,k1,h1,e1,e2,e3,e4⟩,fun hq=>ao ?_⟩;subst hq;exact hs.excl p1 p aa ob k1 h1 k x q e1 hG e2 hl e3 hp e4 ho
 refine⟨⟨by simp[hs.len],fun q hq=>hq.elim (hs.fz q) (fun e=>by rw[e];exact hs.lt o af),fun q hq=>hs.lt q (ad q hq).1,fun q hq hf=>hf.elim (hs.sep q (ad q hq).1) (ad q hq).2,fun q aa k1 h1 e1 e2=>?_,?_⟩,⟨hle,Al _,fun _ _ _=>rfl,fun q hq=>.inl (ad q hq).1,fun q hq=>hq.elim .inl (fun e=>.inr (.inl (by rw[e];exact af))),fun q aa ag e1 e2=>?_,fun q aa ag k1 h1 o1 e1 e2 e3 e4 e5 e6=>?_⟩⟩
 ·rcases hinv e1 with ⟨_,rfl⟩|⟨_,e1⟩
  ·trivial
  ·by_cases ap:aa.live=true
   ·exact (hs.obj q aa k1 h1 e1 e2).mono hle (fun _ _=>rfl)
   ·cases aa<;>first|exact absurd rfl ap|trivial
 ·intro q r aa ag k1 h1 k2 h2 o1 e1 e2 e3 e4 e5 e6 e7 e8;rcases hinv e1 with ⟨_,rfl⟩|⟨_,e1⟩
  ·cases e3
  ·rcases hinv e2 with ⟨_,rfl⟩|⟨_,e2⟩
   ·cases e4
   ·exact hs.excl q r aa ag k1 h1 k2 h2 o1 e1 e2 e3 e4 e5 e6 e7 e8
 ·rcases hinv e2 with ⟨rfl,rfl⟩|⟨_,e2⟩
  ·rw[hG] at e1;cases e1;exact Ev ah
  ·rw[e1] at e2;cases e2;exact Al _
 ·rcases hinv e2 with ⟨rfl,rfl⟩|⟨_,e2⟩
  ·rw[hG] at e1;cases e1;have:ob.st=st:=e6;omega
  ·rw[e1] at e2;cases e2;exact⟨rfl,rfl,rfl⟩
end res
end Go.Sv
namespace Go.Sv
section res
variable {P : Program} {c : Cx} {G : Ff} {K : LV → Ff → Prop}
def zqq (l h m o v i esz:Nat)(f:l≤h)(g:h≤m):(h - l=0∧Wh l h m o v i esz=.emp∧l≠0)∨∃a,Wh l h m o v i esz=.sl o v (i+l*esz) (h - l) esz a∧∀r,a=some r→h - l≤r:=by
 unfold Wh;cases j:Nat.beq l m with
 |true =>
  have q:=Am j;cases d:Nat.beq l 0 with
  |true =>
   have p:=Am d;have:h - l=0:=by omega
   refine .inr ⟨some 0,?_,fun r _=>by omega⟩;rw[this,p];simp
  |false=>exact .inl ⟨by omega,rfl,fun e=>by subst e;cases d⟩
 |false=>exact .inr ⟨_,rfl,fun r e=>by cases e;show h - l≤m - l;omega⟩
def zaa {lo hi:Option Nat}{o v i len esz:Nat}{room:Option Nat}(f:lo.getD 0≤hi.getD len)(j:hi.getD len≤len)(m:∀r,room=some r→len≤r) :
  ∃a,O2 esz lo hi none o v i len esz room=some a∧jk a=true∧((hi.getD len - lo.getD 0=0∧a=.emp∧lo.getD 0≠0)∨∃d,a=.sl o v (i+lo.getD 0*esz) (hi.getD len - lo.getD 0) esz d∧∀r,d=some r→hi.getD len - lo.getD 0≤r):=by
 generalize s:lo.getD 0=l at f;generalize w:hi.getD len=h at f j;have key:∀a,((h - l=0∧a=.emp∧l≠0)∨∃d,a=AV.sl o v (i+l*esz) (h - l) esz d∧∀r,d=some r→h - l≤r)→jk a=true:=by
  rintro a (⟨_,rfl,_⟩|⟨_,rfl,_⟩)<;>rfl
 unfold O2;rw[Bj,s,w];dsimp only;unfold nm;have p:Nat.ble l h=true:=Ak f;cases room with
 |some r =>
  have g:Nat.ble h ((some r).getD len)=true:=Ak (by have:=m r rfl;show h≤r;omega);rw[p,g];dsimp only;have:=zqq l h r o v i esz f (by have:=m r rfl;omega);exact⟨_,rfl,key _ this,this⟩
 |none =>
  have g:Nat.ble h ((none:Option Nat).getD len)=true:=Ak j;rw[p,g];dsimp only;cases q:Nat.beq l 0 with
  |true =>
   have x:=Am q;have:(h - l=0∧(AV.sl o v i h esz none)=.emp∧l≠0)∨∃d,AV.sl o v i h esz none=AV.sl o v (i+l*esz) (h - l) esz d∧∀r,d=some r→h - l≤r:=.inr ⟨none,by rw[x];simp,fun r e=>by cases e⟩;exact⟨_,rfl,key _ this,this⟩
  |false =>
   cases y:Nat.beq l h with
   |true =>
    have z:=Am y;exact⟨_,rfl,rfl,.inl ⟨by omega,rfl,fun e=>by subst e;cases q⟩⟩
   |false=>exact⟨_,rfl,rfl,.inr ⟨none,rfl,fun r e=>by cases e⟩⟩
def zfy {lo hi:Option Nat}{o v i len esz m:Nat}{room:Option Nat}(g:lo.getD 0≤hi.getD len)(j:hi.getD len≤m)(hm:m≤len)(p:∀r,room=some r→len≤r) :
  ∃a,O2 esz lo hi (some m) o v i len esz room=some a∧jk a=true∧((hi.getD len - lo.getD 0=0∧a=.emp∧lo.getD 0≠0)∨∃d,a=.sl o v (i+lo.getD 0*esz) (hi.getD len - lo.getD 0) esz d∧∀r,d=some r→hi.getD len - lo.getD 0≤r):=by
 generalize q:lo.getD 0=l at g;generalize s:hi.getD len=h at g j;have key:∀a,((h - l=0∧a=.emp∧l≠0)∨∃d,a=AV.sl o v (i+l*esz) (h - l) esz d∧∀r,d=some r→h - l≤r)→jk a=true:=by
  rintro a (⟨_,rfl,_⟩|⟨_,rfl,_⟩)<;>rfl
 unfold O2;rw[Bj,q,s];dsimp only;unfold nm;have f:m≤room.getD len:=by
  cases room with
  |none=>exact hm
  |some r=>have:=p r rfl;show m≤r;omega
 rw[show Nat.ble l h=true from Ak g,show Nat.ble h (room.getD len)=true from Ak (Bq j f)];dsimp only;rw[show Nat.ble h m=true from Ak j,show Nat.ble m (room.getD len)=true from Ak f];dsimp only;have:=zqq l h m o v i esz g j;exact⟨_,rfl,key _ this,this⟩
def zgn {lo hi:Option Nat}{size o v i len esz:Nat}{room:Option Nat}{a:AV}(h:O2 size lo hi none o v i len esz room=some a)(d:lo.getD 0=0):∃i' n,a=.sl o v i' n esz room:=by
 unfold O2 at h;split at h
 ·cases h
 rw[d] at h;unfold nm at h;split at h
 ·cases h
 split at h
 ·cases h
 dsimp only at h;cases room with
 |some r =>
  dsimp only at h;cases h;unfold Wh;split
  ·rename_i f;have:=Am f;subst this;exact⟨_,_,rfl⟩
  ·exact⟨_,_,rfl⟩
 |none =>
  dsimp only at h;cases h;exact⟨_,_,rfl⟩
def zpn {lo hi:Option Nat}{size o v i len esz d:Nat}{room:Option Nat}{a f:AV}(h:O2 size lo hi none o v i len esz room=some a)(g:d=0→lo.getD 0=0)(j:f=.sl o v 0 len esz room):S1 d f a:=by
 intro l;obtain⟨i',n,rfl⟩:=zgn h (g l);subst j;exact .inl rfl
def zne {lo hi:Option Nat}{size o v i len esz f g i2 p:Nat}{d:Option Nat}{a j:AV}(h:O2 size lo hi none o v i len esz d=some a)(l:f=0→lo.getD 0=0∧g=0)(q:S1 g j (.sl o v i2 p esz d)):S1 f j a:=by
 intro m;obtain⟨i',n,rfl⟩:=zgn h (l m).1;exact q (l m).2
def zmu {lo hi:Option Nat}{size o v i len esz m f:Nat}{room:Option Nat}{a g:AV}(h:O2 size lo hi (some m) o v i len esz room=some a)(d:f=0→lo.getD 0=0)(hm:m≤len)(j:g=.sl o v 0 len esz room):S1 f g a:=by
 intro l;have d:=d l;subst j;unfold O2 at h;split at h
 ·cases h
 rw[d] at h;unfold nm at h;split at h
 ·cases h
 split at h
 ·cases h
 dsimp only at h;split at h
 ·cases h
 split at h
 ·cases h
 cases h;have p:∃(i' n r:Nat),Wh 0 (hi.getD len) m o v i esz=.sl o v i' n esz (some r)∧r≤m:=by
  unfold Wh;cases Nat.beq 0 m with
  |true=>exact⟨_,_,0,rfl,Dh _⟩
  |false=>exact⟨_,_,m - 0,rfl,Nat.sub_le _ _⟩
 obtain⟨i',n,r,e,q⟩:=p;rw[e];exact .inr ⟨r,rfl,by omega⟩
def zpf {lo hi:Option Nat}{size o v i len esz m:Nat}{room:Option Nat}{a:AV}(h:O2 size lo hi (some m) o v i len esz room=some a)(f:lo.getD 0=0)(g:hi.getD len=m)(hm:0<m):a=.sl o v i m esz (some m):=by
 unfold O2 at h;split at h
 ·cases h
 rw[f,g] at h;unfold nm at h;split at h
 ·cases h
 split at h
 ·cases h
 dsimp only at h;split at h
 ·cases h
 split at h
 ·cases h
 cases h;unfold Wh;have d:Nat.beq 0 m=false:=by
  cases d:Nat.beq 0 m with
  |false=>rfl
  |true=>have:=Am d;omega
 rw[d];dsimp only;rw[show Nat.add i (Nat.mul 0 esz)=i by show i+0*esz=i;omega,show Nat.sub m 0=m from rfl]
def AR.lst' {l:List LV}{len esz:Nat}{a:AV}{o v i n:Nat}{l':List AV}{j:Nat}(hf:c.Fz o)(hr:Jx c.H o v i n=some l')(hl:ARs c l l')(hle:j*esz+len*esz≤n)
  (ha:(len=0∧a=.emp)∨∃room,a=.sl o v (i+j*esz) len esz room∧∀r,room=some r→len≤r):AR c (.lst ((l.drop (j*esz)).take (len*esz)) len esz) a:=by
 have hn:=zf7 hr;have ad:=hl.length;rcases ha with ⟨rfl,rfl⟩|⟨room,rfl,aa⟩
 ·simp only[Dg,E3];exact .lstEmp
 ·exact .lst hf aa (by simp;omega) (zli hr hle) ((hl.drop _).take _)
def zo4 (mx:Bool)(a b:Int):Vd mx (.int .i64 a) [.int .i64 b]=some (.int .i64 (match mx with|true=>max a b|false=>min a b)):=by
 have hk:Rm .i64 .i64=true:=rfl;simp only[Vd,Qu,hk];cases mx with
 |true =>
  simp only[N7];by_cases h:a<b
  ·rw[B5 h];simp only;congr 2;omega
  ·rw[D6 h];simp only;congr 2;omega
 |false =>
  simp only[N7];by_cases h:b<a
  ·rw[B5 h];simp only;congr 2;omega
  ·rw[D6 h];simp only;congr 2;omega
def ma (mx:Bool)(a b d:Int):Vd mx (.int .i64 a) [.int .i64 b,.int .i64 d]=some (.int .i64 (match mx with|true=>max (max a b) d|false=>min (min a b) d)):=by
 cases mx with
 |true =>
  have f:=zo4 true a b;have g:=zo4 true (max a b) d;simp only[Vd] at f g ⊢;cases hm:Qu true (.int .i64 a) (.int .i64 b) with
  |none=>rw[hm] at f;cases f
  |some r =>
   rw[hm] at f;simp only[Option.some.injEq] at f;subst f;exact g
 |false =>
  have f:=zo4 false a b;have g:=zo4 false (min a b) d;simp only[Vd] at f g ⊢;cases hm:Qu false (.int .i64 a) (.int .i64 b) with
  |none=>rw[hm] at f;cases f
  |some r =>
   rw[hm] at f;simp only[Option.some.injEq] at f;subst f;exact g
def sx (mx:Bool)(a b:UInt64):Vd mx (.int .u64 (Int.ofNat a.toNat)) [.int .u64 (Int.ofNat b.toNat)]=some (.int .u64 (Int.ofNat (match mx with|true=>if a<b then b else a|false=>if b<a then b else a:UInt64).toNat)):=by
 have hk:Rm .u64 .u64=true:=rfl;simp only[Vd,Qu,hk];cases mx with
 |true =>
  simp only[N7,zh8];by_cases h:a<b
  ·rw[B5 h,Ag h]
  ·rw[D6 h,Ab h]
 |false =>
  simp only[N7,zh8];by_cases h:b<a
  ·rw[B5 h,Ag h]
  ·rw[D6 h,Ab h]
def bytesA_map:∀l:List UInt8,P8.bytesA (l.map fun b=>AV.int .u8 (Int.ofNat b.toNat))=some (Hx l)
 |[]=>rfl
 |b::l=>by
  have a:=b.toNat_lt;have h:Nat.blt b.toNat 256=true:=by unfold Nat.blt;exact Ak a
  simp only[C8,P8.bytesA,h,Bv,bytesA_map l,Hx]
def ARs_b:∀{bs:List UInt8} {l':List AV},ARs c (bs.map LV.b) l'→l'=bs.map fun b=>AV.int .u8 (Int.ofNat b.toNat)
 |[],l',h=>by cases h;rfl
 |b::bs,l',h=>by
  cases h with
  |cons h a=>cases h;rw[ARs_b a];rfl
def ke (z:HSim c G){x:LV}{a:AV}{K:List LV→Prop}(q:AR c x a)(h:rv G x K):∃l l',ARs c l l'∧K l∧((a=.nilSl∧l'=[])∨∃o v i room,a=.sl o v i l'.length 1 room∧Jx c.H o v i l'.length=some l'):=by
 unfold rv at h;split at h
 ·cases q;exact⟨[],[],.nil,h,.inl ⟨rfl,rfl⟩⟩
 ·rename_i p k;split at h
  ·rename_i l len esz A st B;obtain⟨C,rfl,h⟩:=h;cases q with
   | @dy _ _ k' J _ e hk D _ =>
    obtain⟨L,s,g⟩:=z.obj p _ _ _ B e;have j:=D (by omega);rcases g with ⟨g,r⟩|⟨o,v,room,t,w,l',g,r,E,F,y,_⟩
    ·subst r;have:l=[]:=Ay (by simpa using s);subst this;exact⟨[],[],.nil,h,.inl ⟨j.trans g,rfl⟩⟩
    ·have d:l'.length=len*1:=by rw[←y.length];exact s
     have f:=Qn (i:=0) (n:=len*1) r F E (by omega);rw[Da] at d f;refine⟨l,l',y,h,.inr ⟨o,v,0,room,by rw[j,g,d],?_⟩⟩;rw[d,f,Db,Aw (by omega)]
  ·exact h.elim
 ·rename_i l len esz;obtain⟨rfl,m,h⟩:=h;cases q with
  |lst M H hlen f I =>
   have d:=zf7 f;rw[Da] at d f;refine⟨l,_,I,h,.inr ⟨_,_,_,_,by rw[d],by rw[d];exact f⟩⟩
  |lstNil=>exact absurd rfl m
  |lstEmp=>exact absurd rfl m
 ·exact h.elim
def ym (C:HSim c G){ρ:Fi}{E:Tr AV}(D:Hc c ρ E){o:LOp}(A:o.ok=true)(h:Gl P ρ G o K):Kx P c G K (Ht P (ρA E) c.H o.r):=by
 cases o with
 |move x=>exact .same C (Hr D A) h
 |pick cc a b =>
  simp only[LOp.ok,Ac] at A;have hc:=Hr D A.1.1;have Y:=Hr D A.1.2;have hb:=Hr D A.2;simp only[Gl] at h;simp only[LOp.r,Ht];generalize cc.ev ρ=cv at h hc;generalize cc.r.ev (ρA E)=ca at hc ⊢;cases cv<;>first|exact h.elim|skip
  rename_i t;cases hc;dsimp only at h;split at h
  ·rename_i x y B hy;rw[B] at Y;rw[hy] at hb;cases t with
   |true=>exact .same C Y h
   |false=>exact .same C hb h
  ·cases t with
   |true=>exact .same C Y (h.1 rfl)
   |false=>exact .same C hb (h.2 rfl)
 |alloc l=>exact zle C (mw c A) h
 |box x =>
  have B:=Hr D A;simp only[Gl] at h;simp only[LOp.r,Ht];split at h
  ·rename_i l W;obtain⟨l',I,F⟩:=B.cells W;rw[I];exact zle C F h
  ·exact h.elim
 |build cs ps =>
  simp only[LOp.ok,Ac] at A;simp only[Gl] at h;simp only[LOp.r,Ht];split at h
  ·rename_i l W;obtain⟨l',I,F⟩:=zmw D A.2 (mw c A.1) W;rw[I];exact .same C (.agg F) h
  ·exact h.elim
 |buildSl size len cs ps =>
  simp only[LOp.ok,Ac] at A;simp only[Gl] at h;simp only[LOp.r,Ht];split at h
  ·rename_i l W;obtain⟨l',I,F⟩:=zmw D A.2 (mw c A.1) W;rw[I];exact dc C F h.1 (fun r e=>by cases e;rfl) h.2
  ·exact h.elim
 |load1 x =>
  have B:=Hr D A;simp only[Gl] at h;simp only[LOp.r,Ht];obtain⟨o,v,i,w,b,I,F,O,L⟩:=zt9 C B h;rw[I];dsimp only;rw[F];exact .same C O L
 |loadN n x =>
  have B:=Hr D A;simp only[Gl] at h;simp only[LOp.r,Ht];obtain⟨o,v,i,l',l,I,F,O,L⟩:=znd C B h;rw[I];dsimp only;rw[F];exact .same C (.agg O) L
 |store n x y =>
  simp only[LOp.ok,Ac] at A;have B:=Hr D A.1;have hy:=Hr D A.2;simp only[Gl] at h;simp only[LOp.r,Ht];split at h
  ·rename_i l W;obtain⟨l',p1,p2⟩:=hy.cells W;obtain⟨o,v,i,H',c',G',I,F,O,L,Q,q6⟩:=zbz C B p2 h.2;rw[I];dsimp only;rw[p1];dsimp only;have hb:Nat.beq l'.length n=true:=by rw[←p2.length,h.1];exact Bj _
   rw[hb];dsimp only;rw[F];exact⟨c',.tup [],G',O,L,Q,.tup .nil,q6⟩
  ·exact h.elim
 |nilChk x =>
  have B:=Hr D A;simp only[Gl] at h;simp only[LOp.r,Ht];generalize x.ev ρ=v at h B;generalize x.r.ev (ρA E)=a at B ⊢;split at h
  ·have h0:=B;cases B;exact .same C h0 h
  ·have h0:=B;cases B;exact .same C h0 h
  ·have h0:=B;cases B;exact .same C h0 h
  ·have h0:=B;cases B;exact .same C h0 h
  ·exact h.elim
 |bin op g t x y =>
  simp only[LOp.ok,Ac] at A;exact .ret C (c9 (Hr D A.1) (Hr D A.2) h)
 |un op x=>exact .ret C (uh (Hr D A) h)
 |cvInt k x =>
  obtain⟨k',n,I,v,F,O⟩:=v5 (Hr D A) (show ik k (x.ev ρ) (fun v=>K v G) from h);simp only[LOp.r,Ht];rw[I];exact .same C F O
 |cvStr x =>
  have B:=Hr D A;simp only[Gl] at h;simp only[LOp.r,Ht];obtain⟨l,l',I,⟨bs,rfl,F⟩,O⟩:=ke C B h;have aC:=ARs_b I;rcases O with ⟨O,L⟩|⟨o,v,i,room,O,L⟩
  ·rw[O];rw[L] at aC;have:bs=[]:=by cases bs with
    |nil=>rfl
    |cons _ _=>cases aC
   subst this;exact .same C (.str []) F
  ·rw[O];show Kx P c G K (match Jx c.H o v i l'.length with
    |some r=>match P8.bytesA r with
     |some n=>OR.val (.str l'.length n) c.H
     |none=>.no
    |none=>.no)
   rw[L];dsimp only;rw[aC,bytesA_map];dsimp only;exact .same C (.str' (by simp) rfl) F
 |cvSame x =>
  have B:=Hr D A;simp only[Gl] at h;simp only[LOp.r,Ht];generalize x.ev ρ=v at h B;generalize x.r.ev (ρA E)=a at B ⊢;split at h
  ·cases B;exact .same C (.str _) h
  ·exact h.elim
 |cvBytes x =>
  have B:=Hr D A;simp only[Gl] at h;simp only[LOp.r,Ht];generalize x.ev ρ=v at h B;generalize x.r.ev (ρA E)=a at B ⊢;split at h
  ·rename_i l;cases B;exact dc C (zo9 l c) (by simp) (fun r e=>by cases e) h
  ·exact h.elim
 |mkFunc f a b =>
  simp only[LOp.ok,Ac] at A;exact .same C (.fn (zuz D A.1) (zuz D A.2)) h
 |mkSl size z l cc =>
  simp only[LOp.ok,Ac] at A;have W:=Hr D A.1.2;have hc:=Hr D A.2;simp only[Gl] at h;simp only[LOp.r,Ht];generalize l.ev ρ=lv at h W;generalize l.r.ev (ρA E)=la at W ⊢;generalize cc.ev ρ=cv at h hc;generalize cc.r.ev (ρA E)=ca at hc ⊢;split at h
  ·rename_i n m;obtain⟨rfl,J,T,N,h4⟩:=h;cases W;cases hc;obtain⟨k,rfl⟩:=Af J;have b1:Nat.ble k k=true:=Ak (Al _);have b2:Nat.ble k 1048576=true:=Ak (by omega);show Kx P c G K (match Nat.ble k k with
    |true=>match Nat.ble k 1048576 with
     |true=>match newObj c.H (Mc (toAs z) k) with
      |some (o,H')=>OR.val (.sl o 0 0 k size (some k)) H'
      |none=>.no
     |false=>.no
    |false=>.no)
   rw[b1,b2];exact dc C ((mw c A.1.1).rep k) (by rw[z82,N]) (fun r e=>by cases e;rfl) h4
  ·exact h.elim
 |slStr x lo hi =>
  simp only[LOp.ok,Ac] at A;have B:=Hr D A.1.1;simp only[Gl] at h;simp only[LOp.r,Ht];generalize x.ev ρ=v at h B;generalize x.r.ev (ρA E)=a at B ⊢;split at h
  ·rename_i l;cases B;obtain⟨aa,U,I,F,O⟩:=O4 D A.1.2 h;obtain⟨R,S,L,Q,J,T,N⟩:=O4 D A.2 O;rw[I,L];dsimp only;rw[F,Q];have b1:Nat.ble U S=true:=Ak J;have b2:Nat.ble S l.length=true:=Ak T;rw[b1,b2];dsimp only;refine .same C (.str' (by simp;omega) ?_) N;rw[packL_take,packL_drop];rfl
  ·exact h.elim
 |slSl size x lo hi =>
  simp only[LOp.ok,Ac] at A;have B:=Hr D A.1.1;simp only[Gl] at h;simp only[LOp.r,Ht];have ap:Ip (ρA E) none=some none:=rfl;rw[ap];split at h
  ·rename_i hv;rw[hv] at B;generalize x.r.ev (ρA E)=a at B ⊢;cases B;obtain⟨aa,U,I,F,O⟩:=O4 D A.1.2 h;obtain⟨R,S,L,Q,J,T,N⟩:=O4 D A.2 O;rw[I,L];dsimp only;rw[F,Q,J,T];exact .same C .nilSl N
  ·rename_i p k hv;rw[hv] at B;generalize x.r.ev (ρA E)=a at B ⊢;split at h
   ·rename_i l len esz ad st X;obtain⟨af,rfl,h⟩:=h;obtain⟨aa,U,I,F,O⟩:=O4 D A.1.2 h;obtain⟨R,S,L,Q,J,T,N⟩:=O4 D A.2 O;rw[I,L];cases B with
    | @dy _ _ k' hh _ e hk Y _ =>
     obtain⟨r0,r1,V⟩:=C.obj p _ _ _ X e;have ah:=Y (by omega);rcases V with ⟨V,Z⟩|⟨o,v,room,t,aq,l',V,Z,r4,r5,r6,r7,r8⟩
     ·subst Z;have e1:U=0:=by omega
      have e2:S=0:=by omega
      subst e1 e2;rw[ah,V];dsimp only;rw[F,show R.getD 0=0 from Q];exact .same C (.vw e hk (fun _=>.inl ⟨rfl,.inl rfl⟩) rfl (fun _ _=>trivial)) N
     ·obtain⟨a2,p1,p2,p3⟩:=zaa (lo:=aa) (hi:=R) (o:=o) (v:=v) (i:=0) (esz:=esz) (len:=len) (room:=room) (by rw[F,Q];exact J) (by rw[Q];exact T) (fun r e'=>(r7 r e').2);rw[ah,V];dsimp only;rw[p1];rw[F,Q,Be] at p3;refine .same C (.vw e hk (fun _=>?_) p2 (fun _=>zpn p1 (fun h0=>by rw[F];exact h0) V)) N;rcases p3 with ⟨p3,p4,p5⟩|⟨M,p4⟩
      ·exact .inl ⟨p3,.inr ⟨p4,p5⟩⟩
      ·exact .inr ⟨o,v,len,esz,room,M,V,p4⟩
   ·exact h.elim
  ·rename_i p k l0 len hv;rw[hv] at B;generalize x.r.ev (ρA E)=a at B ⊢;split at h
   ·rename_i l aj esz ad st X;obtain⟨af,rfl,h⟩:=h;obtain⟨aa,U,I,F,O⟩:=O4 D A.1.2 h;obtain⟨R,S,L,Q,J,T,N⟩:=O4 D A.2 O;rw[I,L];cases B with
    | @vw _ _ _ _ k' hh _ e hk Y _ hz =>
     have aL:=(C.obj p _ _ _ X e).1;rcases Y (by omega) with ⟨Z,r4⟩|⟨o,v,ag,H,room,M,Z,r4,r9⟩
     ·subst Z;have e1:U=0:=by omega
      have e2:S=0:=by omega
      subst e1 e2;rcases r4 with rfl|⟨rfl,r5⟩
      ·dsimp only;rw[F,show R.getD 0=0 from Q];exact .same C (.vw e hk (fun _=>.inl ⟨rfl,.inl rfl⟩) rfl (fun _ _=>trivial)) N
      ·dsimp only;rw[F,show R.getD 0=0 from Q];exact .same C (.vw e hk (fun _=>.inl ⟨rfl,.inr ⟨rfl,r5⟩⟩) rfl (fun _ _=>trivial)) N
     ·subst Z;obtain⟨_,w1,w2,w3,_⟩:=Yw C X e;subst w2 w3;obtain⟨a2,p1,p2,p3⟩:=zaa (lo:=aa) (hi:=R) (o:=o) (v:=v) (i:=l0*H) (esz:=H) (len:=len) (room:=M) (by rw[F,Q];exact J) (by rw[Q];exact T) r9;rw[r4];dsimp only;rw[p1];rw[F,Q] at p3;refine .same C (.vw e hk (fun _=>?_) p2 (fun q=>zne p1 (fun h0=>⟨by rw[F];omega,by omega⟩) (r4 ▸ hz q))) N;rcases p3 with ⟨p3,p4,p6⟩|⟨aD,p4,p5⟩
      ·exact .inl ⟨p3,.inr ⟨p4,by omega⟩⟩
      ·exact .inr ⟨o,v,_,H,room,aD,rfl,by rw[p4,Bb],p5⟩
   ·exact h.elim
  ·rename_i l len esz hv;rw[hv] at B;generalize x.r.ev (ρA E)=a at B ⊢;obtain⟨rfl,h⟩:=h;obtain⟨aa,U,I,F,O⟩:=O4 D A.1.2 h;obtain⟨R,S,L,Q,J,T,N⟩:=O4 D A.2 O;rw[I,L];have aA:len=0→l=[]→K (.lst [] 0 esz) G:=fun e1 e2=>by
    have e3:U=0:=by omega
    have e4:S=0:=by omega
    subst e2 e3 e4;simpa using N
   cases B with
   |lst hf ao hlen hr W =>
    obtain⟨a2,p1,p2,p3⟩:=zaa (lo:=aa) (hi:=R) (by rw[F,Q];exact J) (by rw[Q];exact T) ao;dsimp only;rw[p1];rw[F,Q] at p3;refine .same C (.lst' hf hr W ?_ (p3.imp (fun h=>⟨h.1,h.2.1⟩) id)) N;rw[←Bb];exact At _ (by omega)
   |lstNil =>
    have e3:U=0:=by omega
    have e4:S=0:=by omega
    dsimp only;rw[F,show R.getD 0=S from Q,e3,e4];exact .same C .lstNil (aA rfl rfl)
   |lstEmp =>
    have e3:U=0:=by omega
    have e4:S=0:=by omega
    dsimp only;rw[F,show R.getD 0=S from Q,e3,e4];exact .same C .lstEmp (aA rfl rfl)
  ·exact h.elim
 |slSl3 size x lo hi mx =>
  simp only[LOp.ok,Ac] at A;have B:=Hr D A.1.1.1;have aH:ct (some mx)=true:=A.2;simp only[Gl] at h;simp only[LOp.r,Ht];split at h
  ·rename_i p k hv;rw[hv] at B;generalize x.r.ev (ρA E)=a at B ⊢;split at h
   ·rename_i l len esz ad st X;obtain⟨af,rfl,h⟩:=h;obtain⟨aa,U,I,F,O⟩:=O4 D A.1.1.2 h;obtain⟨R,S,L,Q,q6⟩:=O4 D A.1.2 O;obtain⟨ar,aw,q7,q8,h0,J,T,N,h4⟩:=O4 D aH q6;simp only[Cl] at q7;rw[I,L,q7];cases B with
    | @dy _ _ k' hh _ e hk Y _ =>
     obtain⟨r0,r1,V⟩:=C.obj p _ _ _ X e;have ah:=Y (by omega);have ap:ar=some aw:=by
      cases ar with
      |none=>unfold Ip at q7;dsimp only at q7;split at q7<;>cases q7
      |some m=>simp at q8;rw[q8]
     rcases V with ⟨V,Z⟩|⟨o,v,room,t,aq,l',V,Z,r4,r5,r6,r7,r8⟩
     ·omega
     ·obtain⟨a2,p1,p2,p3⟩:=zfy (lo:=aa) (hi:=R) (o:=o) (v:=v) (i:=0) (esz:=esz) (len:=len) (room:=room) (m:=aw) (by rw[F,Q];exact J) (by rw[Q];exact T) N (fun r e'=>(r7 r e').2);rw[ah,V,ap];dsimp only;rw[p1];rw[F,Q,Be] at p3;unfold mi at h4;split at h4
      ·rename_i aI;obtain⟨f1,f2,f3⟩:=Dc aI;have hc:=zpf p1 (by rw[F];exact f1) (by rw[Q];exact f2) (by omega);exact .same C (.vf e hk (fun _=>⟨o,v,len,esz,room,V,by rw[hc,f2]⟩) p2) h4
      refine .same C (.vw e hk (fun _=>?_) p2 (fun _=>zmu p1 (fun h0=>by rw[F];exact h0) N V)) h4;rcases p3 with ⟨p3,p4,p5⟩|⟨M,p4⟩
      ·exact .inl ⟨p3,.inr ⟨p4,p5⟩⟩
      ·exact .inr ⟨o,v,len,esz,room,M,V,p4⟩
   ·exact h.elim
  ·rename_i l len esz hv;rw[hv] at B;generalize x.r.ev (ρA E)=a at B ⊢;obtain⟨rfl,h⟩:=h;obtain⟨aa,U,I,F,O⟩:=O4 D A.1.1.2 h;obtain⟨R,S,L,Q,q6⟩:=O4 D A.1.2 O;obtain⟨ar,aw,q7,q8,h0,J,T,N,h4⟩:=O4 D aH q6;simp only[Cl] at q7;rw[I,L,q7];have ap:ar=some aw:=by
    cases ar with
    |none=>unfold Ip at q7;dsimp only at q7;split at q7<;>cases q7
    |some m=>simp at q8;rw[q8]
   cases B with
   |lst hf ao hlen hr W =>
    obtain⟨a2,p1,p2,p3⟩:=zfy (lo:=aa) (hi:=R) (m:=aw) (by rw[F,Q];exact J) (by rw[Q];exact T) N ao;rw[ap];dsimp only;rw[p1];rw[F,Q] at p3;refine .same C (.lst' hf hr W ?_ (p3.imp (fun h=>⟨h.1,h.2.1⟩) id)) h4;rw[←Bb];exact At _ (by omega)
   |lstNil=>omega
   |lstEmp=>omega
  ·exact h.elim
 |fieldAddr off x =>
  have B:=Hr D A;simp only[Gl] at h;simp only[LOp.r,Ht];generalize x.ev ρ=v at h B;generalize x.r.ev (ρA E)=a at B ⊢;split at h
  ·cases B with
   |ptr e=>exact .same C (.ptr e) h
  ·cases B with
   |dptr e hk Y=>exact .same C (.dptr e hk (fun q=>⟨by rw[(Y q).1];rfl,(Y q).2⟩)) h
  ·cases B with
   |cptr hf hr W =>
    dsimp only;rw[show ∀a b c:Nat,Nat.add (a+b) c=a+(b+c) from fun a b c=>Cu a b c];exact .same C (.cptr hf hr W) h
  ·exact h.elim
 |field g n off x =>
  have B:=Hr D A;simp only[Gl] at h;simp only[LOp.r,Ht];generalize x.ev ρ=v at h B;generalize x.r.ev (ρA E)=a at B ⊢;split at h
  ·rename_i l;cases B with
   |agg W =>
    dsimp only;cases g with
    |true =>
     obtain⟨J,T⟩:=h;have aE:=W.length;rename_i l';have b1:Nat.ble (Nat.add off n) l'.length=true:=Ak (show off+n≤l'.length by rw[←aE];exact J);refine .ret C ?_;simp only[Wv,Te,b1];exact .mk (.agg ((W.drop off).take n)) T
    |false =>
     obtain⟨v,hv,h⟩:=h;obtain⟨a,I,F⟩:=W.get hv;refine .ret C ?_;simp only[Wv];rw[I];exact .mk F h
  ·exact h.elim
 |ixAddr size x i =>
  simp only[LOp.ok,Ac] at A;have B:=Hr D A.1;have hi:=Hr D A.2;simp only[Gl] at h;simp only[LOp.r,Ht];generalize i.ev ρ=iv at h hi;generalize i.r.ev (ρA E)=ia at hi ⊢;generalize x.ev ρ=v at h B;generalize x.r.ev (ρA E)=a at B ⊢;have main : ∀ {kk : IntKind} {n : Int} (v : LV) (a : AV), AR c v a → ixO G size v n (fun v => K v G) → Kx P c G K (match a, AV.int kk n with
     |.sl o v i len esz _,.int _ (.ofNat n)=>match Nat.blt n len with
      |true=>match Nat.beq esz size with
       |true=>.val (.ptr o v (Nat.add i (Nat.mul n esz))) c.H
       |false=>.no
      |false=>.no
     |_,_=>.no):=by
   clear h B;intro kk n v a B h;unfold ixO at h;have key:∀{o v j len esz:Nat} {room:Option Nat} {m:Nat} {y:LV},m<len→esz=size→AR c y (.ptr o v (j+m*esz))→K y G→Kx P c G K (match AV.sl o v j len esz room,AV.int kk (Int.ofNat m) with
     |.sl o v i len esz _,.int _ (.ofNat n)=>match Nat.blt n len with
      |true=>match Nat.beq esz size with
       |true=>.val (.ptr o v (Nat.add i (Nat.mul n esz))) c.H
       |false=>.no
      |false=>.no
     |_,_=>.no):=by
    intro o v j len esz room m y J T N h4;subst T;have b1:Nat.blt m len=true:=by unfold Nat.blt;exact Ak J
    dsimp only;rw[b1,Bj];exact .same C N h4
   split at h
   ·rename_i p k;split at h
    ·rename_i l len esz ad st X;obtain⟨af,rfl,J,T,N⟩:=h;obtain⟨m,rfl⟩:=Af J;cases B with
     | @dy _ _ k' hh _ e hk Y _ =>
      obtain⟨r0,r1,V⟩:=C.obj p _ _ _ X e;have ah:=Y (by omega);rcases V with ⟨V,Z⟩|⟨o,v,room,t,aq,l',V,_⟩
      ·omega
      ·rw[ah,V];refine key (room:=room) (y:=.dptr p k (m*esz)) (by omega) rfl (.dptr e hk (fun _=>⟨by rw[Be],len,esz,room,V⟩)) N
    ·exact h.elim
   ·rename_i p k lo len;split at h
    ·rename_i l aj esz ad st X;obtain⟨af,rfl,J,T,N⟩:=h;obtain⟨m,rfl⟩:=Af J;cases B with
     | @vw _ _ _ _ k' hh _ e hk Y _ _ =>
      have aL:=(C.obj p _ _ _ X e).1;rcases Y (by omega) with ⟨Z,r4⟩|⟨o,v,ag,H,room,M,Z,r4,r9⟩
      ·omega
      ·have e2:=e;rw[Z] at e2;obtain⟨_,w1,w2,w3,_⟩:=Yw C X e2;subst w2 w3;rw[r4];refine key (room:=M) (y:=.dptr p k ((lo+m)*H)) (by omega) rfl (.dptr e hk (fun _=>⟨by rw[Bb],ag,H,room,Z⟩)) N
    ·exact h.elim
   ·rename_i l len esz;obtain⟨rfl,J,T,N⟩:=h;obtain⟨m,rfl⟩:=Af J;cases B with
    | @lst _ _ _ _ _ _ rm _ hf ao hlen hr W =>
     refine key (room:=rm) (y:=.cptr l (m*esz)) (by omega) rfl ?_ N;rw[←hlen] at hr;exact .cptr hf hr W
    |lstNil=>omega
    |lstEmp=>omega
   ·exact h.elim
  split at h
  ·cases hi;exact main v a B h
  ·cases hi;exact main v a B h
  ·exact h.elim
 |ixStr x i =>
  simp only[LOp.ok,Ac] at A;have B:=Hr D A.1;have hi:=Hr D A.2;simp only[Gl] at h;simp only[LOp.r,Ht];generalize i.ev ρ=iv at h hi;generalize i.r.ev (ρA E)=ia at hi ⊢;generalize x.ev ρ=v at h B;generalize x.r.ev (ρA E)=a at B ⊢;have key:∀{l:List UInt8} {k:IntKind} {m:Nat},m<l.length→K (.b (l.getD m 0)) G→Kx P c G K (match AV.str l.length (Hx l),AV.int k (Int.ofNat m) with
    |.str len n,.int _ (.ofNat i)=>match Nat.blt i len with
     |true=>.val (.int .u8 (Int.ofNat (Nat.mod (Nat.div n (Nat.pow 256 i)) 256))) c.H
     |false=>.no
    |_,_=>.no):=by
   intro l k m J T;have b1:Nat.blt m l.length=true:=by unfold Nat.blt;exact Ak J
   dsimp only;rw[b1];refine .same C (.b' ?_) T;have:=zi8 (Ai J);show Int.ofNat (Hx l/256^m%256)=_;rw[this,Ae,Ai J];rfl
  split at h
  ·rename_i l n;obtain⟨J,T,N⟩:=h;obtain⟨m,rfl⟩:=Af J;cases B;cases hi;exact key (k:=.i64) (by omega) N
  ·rename_i l n;obtain⟨T,N⟩:=h;cases B;cases hi;exact key (k:=.u64) T N
  ·rename_i l n;obtain⟨T,N⟩:=h;cases B;cases hi;exact key (k:=.u8) T N
  ·exact h.elim
 |extract i x =>
  have B:=Hr D A;simp only[Gl] at h;simp only[LOp.r,Ht];generalize x.ev ρ=v at h B;generalize x.r.ev (ρA E)=a at B ⊢;split at h
  ·rename_i l;cases B with
   |tup W =>
    dsimp only;obtain⟨v,hv,h⟩:=h;obtain⟨a,I,F⟩:=W.get hv;refine .ret C ?_;rw[I];exact .mk F h
  ·exact h.elim
 |lenStr x =>
  have B:=Hr D A;simp only[Gl] at h;simp only[LOp.r,Ht];generalize x.ev ρ=v at h B;generalize x.r.ev (ρA E)=a at B ⊢;split at h
  ·cases B;exact .same C (.i _) h
  ·exact h.elim
 |lenSl x =>
  obtain⟨n,I,F⟩:=g9 C (Hr D A) (show lenL G (x.ev ρ) (fun n=>K (.i n) G) from h);simp only[LOp.r,Ht];rcases F with ⟨F,rfl⟩|⟨F,rfl⟩|⟨o,v,i,esz,room,F⟩
  ·rw[F];exact .same C (.i 0) I
  ·rw[F];exact .same C (.i 0) I
  ·rw[F];exact .same C (.i n) I
 |maxi mx x y =>
  simp only[LOp.ok,Ac] at A;have B:=Hr D A.1;have hy:=Hr D A.2;simp only[Gl] at h;simp only[LOp.r,Ht,C8,List.map_nil];generalize y.ev ρ=yv at h hy;generalize y.r.ev (ρA E)=ya at hy ⊢;generalize x.ev ρ=v at h B;generalize x.r.ev (ρA E)=a at B ⊢;split at h
  ·cases B;cases hy;dsimp only;rw[zo4];exact .same C (.i _) h
  ·cases B;cases hy;dsimp only;rw[sx];exact .same C (.u _) h
  ·exact h.elim
 |max3 mx x y z =>
  simp only[LOp.ok,Ac] at A;have B:=Hr D A.1.1;have hy:=Hr D A.1.2;have hz:=Hr D A.2;simp only[Gl] at h;simp only[LOp.r,Ht,C8,List.map_nil];generalize z.ev ρ=zv at h hz;generalize z.r.ev (ρA E)=za at hz ⊢;generalize y.ev ρ=yv at h hy;generalize y.r.ev (ρA E)=ya at hy ⊢;generalize x.ev ρ=v at h B;generalize x.r.ev (ρA E)=a at B ⊢;cases v<;>first|exact h.elim|skip
  cases yv<;>first|exact h.elim|skip
  cases zv<;>first|exact h.elim|skip
  cases B;cases hy;cases hz;dsimp only;rw[ma];exact .same C (.i _) h
 |ixAddrArr len size x i =>
  simp only[LOp.ok,Ac] at A;have B:=Hr D A.1;have hi:=Hr D A.2;simp only[Gl] at h;simp only[LOp.r,Ht];generalize i.ev ρ=iv at h hi;generalize i.r.ev (ρA E)=ia at hi ⊢;generalize x.ev ρ=v at h B;generalize x.r.ev (ρA E)=a at B ⊢;cases iv<;>first|exact h.elim|skip
  cases hi;obtain⟨J,T,h⟩:=h;rename_i n;obtain⟨m,rfl⟩:=Af J;have b1:Nat.blt m len=true:=by unfold Nat.blt;exact Ak (by omega)
  cases v<;>first|exact h.elim|skip
  ·cases B with
   |ptr e =>
    show Kx P c G K (match Nat.blt m len with|true=>_|false=>_);rw[b1];refine .same C ?_ h;have e0:=AR.ptr (i:=0) e;rename_i p j o;show AR c (.ptr p (j+m*size)) (.ptr o 0 (j+m*size));exact .ptr e
  ·cases B with
   |dptr e hk Y =>
    show Kx P c G K (match Nat.blt m len with|true=>_|false=>_);rw[b1];exact .same C (.dptr e hk (fun q=>⟨by rw[(Y q).1];rfl,(Y q).2⟩)) h
  ·cases B with
   |cptr hf hr W =>
    show Kx P c G K (match Nat.blt m len with|true=>_|false=>_);rw[b1];refine .same C ?_ h;rename_i o vv jj ll;rw[show Nat.add (jj+_) (Nat.mul m size)=jj+(_+m*size) from Cu _ _ _];exact .cptr hf hr W
 |ixArr g len size x i =>
  simp only[LOp.ok,Ac] at A;have B:=Hr D A.1;have hi:=Hr D A.2;simp only[Gl] at h;simp only[LOp.r,Ht];generalize i.ev ρ=iv at h hi;generalize i.r.ev (ρA E)=ia at hi ⊢;generalize x.ev ρ=v at h B;generalize x.r.ev (ρA E)=a at B ⊢;cases iv<;>first|exact h.elim|skip
  cases hi;obtain⟨J,T,h⟩:=h;rename_i n;obtain⟨m,rfl⟩:=Af J;have b1:Nat.blt m len=true:=by unfold Nat.blt;exact Ak (by omega)
  cases v<;>first|exact h.elim|skip
  cases B with
  |agg W =>
   show Kx P c G K (match Nat.blt m len with|true=>_|false=>_);rw[b1];simp only[A8] at h;cases g with
   |true =>
    obtain⟨J,T⟩:=h;have aE:=W.length;rename_i l';have b2:Nat.ble (Nat.add (Nat.mul m size) size) l'.length=true:=Ak (show m*size+size≤l'.length by rw[←aE];exact J);refine .ret C ?_;simp only[Wv,Te,b2];exact .mk (.agg ((W.drop _).take _)) T
   |false =>
    obtain⟨v,hv,h⟩:=h;obtain⟨a,I,F⟩:=W.get hv;refine .ret C ?_;simp only[Wv];show Kl c _ (_);rw[show Nat.mul m size=m*size from rfl,I];exact .mk F h
 |lenArr n x =>
  simp only[Gl] at h;simp only[LOp.r,Ht];exact .same C (.i _) h
 |appZ size z s x =>
  simp only[LOp.ok,Ac] at A;have hz:=mw c A.1.1;have aF:=Hr D A.1.2;have B:=Hr D A.2;simp only[Gl] at h;simp only[LOp.r,Ht];generalize x.ev ρ=v at h B;generalize x.r.ev (ρA E)=a at B ⊢;split at h
  ·rename_i n;obtain⟨J,T,N,h4⟩:=h;obtain⟨m,rfl⟩:=Af J;cases B;have b1:Nat.ble m 1048576=true:=Ak (by omega);show Kx P c G K (match Nat.ble m 1048576 with
    |true=>Qm c.H size (s.r.ev (ρA E)) m (Mc (toAs z) m)
    |false=>.no)
   rw[b1];exact zyk C aF (hz.rep m) (by rw[z82,N]) h4
  ·exact h.elim
 |appG size s x =>
  simp only[LOp.ok,Ac] at A;have aF:=Hr D A.1;have B:=Hr D A.2;simp only[Gl] at h;simp only[LOp.r,Ht];obtain⟨n,l,l',I,F,O,L,Q⟩:=zxy C B h;rw[I];have b1:Nat.ble n 1048576=true:=Ak L;dsimp only;rw[b1];exact zyk C aF F O Q
 |copy size d x =>
  simp only[LOp.ok,Ac] at A;have hd:=Hr D A.1;have B:=Hr D A.2;simp only[Gl] at h;simp only[LOp.r,Ht];obtain⟨n,l,l',I,F,O,L⟩:=zxy C B h;rw[I];dsimp only;have aB:∀a b:Nat,I8 a b=min a b:=fun a b=>by
   unfold I8;cases hb:Nat.ble a b with
   |true=>have:=As hb;simp only;omega
   |false =>
    have:¬a≤b:=fun q=>by rw[Ak q] at hb;cases hb
    simp only;omega
  generalize d.ev ρ=v at L hd;generalize d.r.ev (ρA E)=a at hd ⊢;split at L
  ·rename_i p k;split at L
   ·rename_i r len esz ad st X;obtain⟨af,rfl,h⟩:=L;cases hd with
    | @dy _ _ k' hh _ e hk Y _ =>
     obtain⟨r0,r1,V⟩:=C.obj p _ _ _ X e;have ah:=Y (by omega);rcases V with ⟨V,Z⟩|⟨o,v,room,t,aq,r',V,Z⟩
     ·subst Z;have:r=[]:=Ay (by simpa using r1);subst this;rw[ah,V];dsimp only;have hm:min n 0=0:=by omega
      rw[hm] at h;simp only[Dg,E3] at h;obtain⟨p1,p2,_⟩:=C.upd (k':=k') (x':=hh) (ob':=.dyn (Hd [] 0 []) 0 esz ad (st+1)) (H':=c.H) X rfl e (Al _) (fun _ _ _=>rfl) (fun o e'=>⟨.inl e',C.lt o ⟨p,_,_,_,X,rfl,e,e'⟩⟩) (Al _) (fun _=>rfl) (fun _=>rfl) (.inl (Bx _))
       (fun _=>⟨r0,by simp[Hd],.inl ⟨V,rfl⟩⟩)
      exact⟨⟨c.hd.set p (k',hh),c.Fz,c.H⟩,.i (0:Nat),_,rfl,p1,p2,.i _,h⟩
     ·have hw:O9 G (.dptr p k 0) (l.take (min n len*esz)) (fun G'=>K (.i (min n len:Nat)) G'):=by
       unfold O9;dsimp only;rw[X];refine⟨af,?_,h⟩;rw[r1,Ct,Be];exact Bq (Nat.min_le_left _ _) (At _ (Nat.min_le_right _ _))
      obtain⟨o2,v2,i2,H',c',G',w1,w2,w3,w4,w5,w6⟩:=zbz C (a:=.ptr o v 0) (.dptr e hk (fun _=>⟨rfl,len,esz,room,V⟩)) (F.take (min n len*esz)) hw;cases w1;rw[ah,V];dsimp only;rw[Bj,aB];dsimp only;rw[show Nat.mul (min n len) esz=min n len*esz from rfl,w2];exact⟨c',_,G',w3,w4,w5,.i _,w6⟩
   ·exact L.elim
  ·rename_i p k lo len;split at L
   ·rename_i r aj esz ad st X;obtain⟨af,rfl,hle,h⟩:=L;cases hd with
    | @vw _ _ _ _ k' hh _ e hk Y _ _ =>
     obtain⟨r0,r1,V⟩:=C.obj p _ _ _ X e;have ax:len=0→(a=.nilSl∨a=.emp∧lo≠0)→Kx P c G K (.val (.int .i64 0) c.H):=by
      intro aG _;subst aG;have hm:min n 0=0:=by omega
      rw[hm] at h;simp only[Dg,E3] at h;have ay:Hd r (lo*esz) []=r:=by unfold Hd;simp
      rw[ay] at h;obtain⟨p1,p2,_⟩:=C.upd (k':=k') (x':=hh) (ob':=.dyn r aj esz ad (st+1)) (H':=c.H) X rfl e (Al _) (fun _ _ _=>rfl) (fun o e'=>⟨.inl e',C.lt o ⟨p,_,_,_,X,rfl,e,e'⟩⟩) (Al _) (fun _=>rfl) (fun _=>rfl) (.inl (Bx _))
       (fun az=>(C.obj p _ _ _ X e).mono az (fun _ _=>rfl))
      exact⟨⟨c.hd.set p (k',hh),c.Fz,c.H⟩,.i (0:Nat),_,rfl,p1,p2,.i _,h⟩
     rcases Y (by omega) with ⟨Z,r4⟩|⟨o,v,ag,H,room,M,Z,r4,r9⟩
     ·have:=ax Z r4;rcases r4 with rfl|⟨rfl,_⟩
      ·exact this
      ·exact this
     ·have e2:=e;rw[Z] at e2;obtain⟨_,w1,w2,w3,_⟩:=Yw C X e2;subst w2 w3;have hw:O9 G (.dptr p k (lo*H)) (l.take (min n len*H)) (fun G'=>K (.i (min n len:Nat)) G'):=by
       unfold O9;dsimp only;rw[X];refine⟨af,?_,h⟩;rw[Ct];have J:min (min n len*H) l.length≤len*H:=Bq (Nat.min_le_left _ _) (At _ (Nat.min_le_right _ _));rw[Bb] at hle;omega
      obtain⟨o2,v2,i2,H',c',G',u1,u2,u3,u4,u5,u6⟩:=zbz C (a:=.ptr o v (lo*H)) (.dptr e hk (fun _=>⟨rfl,ag,H,room,Z⟩)) (F.take (min n len*H)) hw;cases u1;rw[r4];dsimp only;rw[Bj,aB];dsimp only;rw[show Nat.mul (min n len) H=min n len*H from rfl,u2];exact⟨c',_,G',u3,u4,u5,.i _,u6⟩
   ·exact L.elim
  ·exact L.elim
 |clear size z x =>
  simp only[LOp.ok,Ac] at A;have hz:=mw c A.1;have B:=Hr D A.2;simp only[Gl] at h;simp only[LOp.r,Ht];generalize x.ev ρ=v at h B;generalize x.r.ev (ρA E)=a at B ⊢;split at h
  ·rename_i p k lo len;split at h
   ·rename_i r aj esz ad st X;obtain⟨af,rfl,aM,hle,h⟩:=h;cases B with
    | @vw _ _ _ _ k' hh _ e hk Y _ _ =>
     obtain⟨r0,r1,V⟩:=C.obj p _ _ _ X e;have ax:len=0→Kx P c G K (.val Km c.H):=by
      intro aG;subst aG;have ay:Hd r (lo*esz) (H8 z 0)=r:=by unfold Hd;simp[H8]
      rw[ay] at h;obtain⟨p1,p2,_⟩:=C.upd (k':=k') (x':=hh) (ob':=.dyn r aj esz ad (st+1)) (H':=c.H) X rfl e (Al _) (fun _ _ _=>rfl) (fun o e'=>⟨.inl e',C.lt o ⟨p,_,_,_,X,rfl,e,e'⟩⟩) (Al _) (fun _=>rfl) (fun _=>rfl) (.inl (Bx _))
       (fun az=>(C.obj p _ _ _ X e).mono az (fun _ _=>rfl))
      exact⟨⟨c.hd.set p (k',hh),c.Fz,c.H⟩,.any,_,rfl,p1,p2,.any _,h⟩
     rcases Y (by omega) with ⟨Z,r4⟩|⟨o,v,ag,H,room,M,Z,r4,r9⟩
     ·have:=ax Z;rcases r4 with rfl|⟨rfl,_⟩
      ·exact this
      ·exact this
     ·have e2:=e;rw[Z] at e2;obtain⟨_,w1,w2,w3,_⟩:=Yw C X e2;subst w2 w3;have hw:O9 G (.dptr p k (lo*H)) (H8 z len) (fun G'=>K .any G'):=by
       unfold O9;dsimp only;rw[X];refine⟨af,?_,h⟩;rw[z82,aM,←Bb];exact hle
      obtain⟨o2,v2,i2,H',c',G',u1,u2,u3,u4,u5,u6⟩:=zbz C (a:=.ptr o v (lo*H)) (.dptr e hk (fun _=>⟨rfl,ag,H,room,Z⟩)) (hz.rep len) hw;cases u1;rw[r4];dsimp only;rw[Bj];dsimp only;rw[u2];exact⟨c',.any,G',u3,u4,u5,.any _,u6⟩
   ·exact h.elim
  ·exact h.elim
 |mkMap0=>exact zi9 C h
 |mkMap1 x =>
  have B:=Hr D A;simp only[Gl] at h;simp only[LOp.r,Ht];generalize x.ev ρ=v at h B;generalize x.r.ev (ρA E)=a at B ⊢;split at h
  ·cases B;exact zi9 C h
  ·exact h.elim
 |lookup d z ok x i =>
  simp only[LOp.ok,Ac] at A;have hz:=Zx c A.1.1;have B:=Hr D A.1.2;have hi:=Hr D A.2;simp only[Gl] at h;simp only[LOp.r,Ht];obtain⟨es,aN,I,F,O,_⟩:=zyu C B h;rw[I];dsimp only;rcases zv0 hi F O with ⟨f1,f2⟩|⟨v,b,f1,f2,f3⟩
  ·rw[f1];dsimp only;cases ok with
   |true=>exact .same C (.tup (.cons hz (.cons (.bool _) .nil))) f2
   |false=>exact .same C hz f2
  ·rw[f1];dsimp only;cases ok with
   |true=>exact .same C (.tup (.cons f2 (.cons (.bool _) .nil))) f3
   |false=>exact .same C f2 f3
 |mapUpd d m k v =>
  simp only[LOp.ok,Ac] at A;simp only[Gl] at h;simp only[LOp.r,Ht];exact zzu C (Hr D A.1.1) (Hr D A.1.2) (Hr D A.2) h
 |lenMap x =>
  have B:=Hr D A;simp only[Gl] at h;simp only[LOp.r,Ht];obtain⟨es,aN,I,F,O,L⟩:=zyu C B h;have hlen:∀{l:List (LV×LV×Nat)} {r:List (AV×AV×Nat)},MRs c l r→l.length=r.length:=by
   intro l r hr
   induction hr with
   |nil=>rfl
   |cons _ _ _ ih=>simp[ih]
  rcases L with ⟨e1,rfl⟩|⟨o,ck,e1,e2⟩
  ·rw[e1];cases F;exact .same C (.i 0) O
  ·rw[e1];dsimp only;rw[e2];dsimp only;rw[←hlen F];exact .same C (.i _) O
 |slArr n size x lo hi =>
  simp only[LOp.ok,Ac] at A;have B:=Hr D A.1.1;simp only[Gl] at h;simp only[LOp.r,Ht];generalize x.ev ρ=v at h B;generalize x.r.ev (ρA E)=a at B ⊢;split at h
  ·rename_i p i;split at h
   ·rename_i l st X;obtain⟨h0,h⟩:=h;obtain⟨aa,U,I,F,O⟩:=O4 D A.1.2 h;obtain⟨R,S,L,Q,q6⟩:=O4 D A.2 O;rw[I,L];obtain⟨J,T,N⟩:=q6;cases B with
    | @ptr _ _ o e =>
     obtain⟨t,l',V,Z,r4⟩:=zme C X e;obtain⟨a2,p1,p2,p3⟩:=zaa (lo:=aa) (hi:=R) (o:=o) (v:=0) (i:=i) (len:=n) (esz:=size) (room:=some n) (by rw[F,Q];exact J) (by rw[Q];exact T) (fun r e=>by cases e;exact Al _);have b1:Nat.ble (Nat.add i (Nat.mul n size)) l.length=true:=Ak h0;simp only[Ip,V,b1];rw[p1];rw[F,Q] at p3;obtain⟨u1,u2⟩:=C.freeze (st:=st+1) X rfl (Bx _) e (rfl:Gq (.ptr o 0 0)=some o);have aJ:i+U*size+(S - U)*size≤l.length:=by
      rw[Cu,←Bb];have:(U+(S - U))*size≤n*size:=At _ (by omega);omega
     refine⟨⟨c.hd,fun q=>c.Fz q∨q=o,c.H⟩,_,_,rfl,u1,u2,?_,N⟩;rcases p3 with ⟨e1,rfl,_⟩|⟨room,rfl,ao⟩
     ·rw[e1];simp only[Dg,E3];exact .lstEmp
     ·refine .lst (.inr rfl) ao (by simp;omega) (Qn V Z (Al _) aJ) (ARs.mono u2.le ((r4.drop _).take _))
   ·exact h.elim
  ·exact h.elim
 |callV f args =>
  simp only[LOp.ok,Ac] at A;have hf:=Hr D A.1;have Y:=zuz D A.2;simp only[Gl] at h;simp only[LOp.r,Ht];generalize f.ev ρ=v at h hf;generalize f.r.ev (ρA E)=a at hf ⊢;split at h
  ·rename_i g l r;have aK:=h.1;cases hf with
   |fn W hr =>
    rename_i l' r';have key:zhy P c.H (.fn (.func g) l' r') ((jc args).map (·.ev (ρA E)))=.call (.fn g) (l'++(jc args).map (·.ev (ρA E))++r'):=by
     have k2:bi P (.fn (.func g) l' r') ((jc args).map (·.ev (ρA E)))=.call (.fn g) (l'++(jc args).map (·.ev (ρA E))++r'):=by
      unfold bi;dsimp only;rw[Ag aK.1]
     unfold zhy;split
     ·rename_i g' e;cases e;rw[aK.2];exact k2
     ·exact k2
    rw[key];exact⟨.fn g,_,rfl,(W.append Y).append hr,h⟩
  ·rename_i p r;cases hf with
   |yield e=>exact⟨.yield p,_,e,Y,h⟩
  ·exact h.elim
end res
end Go.Sv
noncomputable section
namespace Go.Sv
structure RI where
 d:Option Nat
 g:Option (Nat×Bool)
 o:ROp
def qx (n:Nat):Option Nat→Bool
 |none=>true
 |some d=>Nat.blt d n
def gy (P:Program)(n:Nat)(ops:Array Oper)(o:Oper):Option RI :=
 match qx n o.dst with
 |false=>none
 |true=>match Li P o.op with
  |none=>none
  |some r=>match o.guard with
   |none=>some ⟨o.dst,none,r⟩
   |some (j,w)=>match (ops[j]?).bind (·.dst) with
    |none=>none
    |some t=>match Nat.ble t I6 with
     |true=>some ⟨o.dst,some (t,w),r⟩
     |false=>none
def zw (P:Program)(n:Nat)(ops:Array Oper):List Oper→Option (List RI)
 |[]=>some []
 |o::l=>match gy P n ops o with
  |none=>none
  |some r=>match zw P n ops l with
   |none=>none
   |some rs=>some (r::rs)
structure LI where
 d:Option Nat
 g:Option (Nat×Bool)
 o:LOp
def LI.r (x:LI):RI:=⟨x.d,x.g,x.o.r⟩
def lis:List LI→List RI
 |[]=>[]
 |x::l=>x.r::lis l
def Vo (g:Option (Nat×Bool))(E:Tr AV):Bool:=match g with
 |none=>true
 |some (t,w)=>match Fk (F7 t) E with
  |some (.bool b)=>match b with
   |true=>w
   |false=>!w
  |_=>false
def Z2 (P:Program)(x:RI)(k:J2)(E:Tr AV)(H:Heap):OE:=match Vo x.g E with
 |false=>.ok (H9 x.d Km E) H
 |true=>match Ht P (ρA E) H x.o with
  |.no=>.no
  |.val v H'=>.ok (H9 x.d v E) H'
  |.call t args=>match k t args H with
   |.no=>.no
   |.ok v H'=>.ok (H9 x.d v E) H'
def zgo {P:Program}{n:Nat}{ops:Array Oper}{o:Oper}{x:RI}(h:gy P n ops o=some x)(k:J2)(E:Tr AV)(H:Heap):(Js P n ops o).run k E H=Z2 P x k E H:=by
 unfold gy at h;cases hd:qx n o.dst with
 |false=>rw[hd] at h;cases h
 |true =>
  rw[hd] at h;dsimp only at h;cases l:Li P o.op with
  |none=>rw[l] at h;cases h
  |some r =>
   rw[l] at h;dsimp only at h;have A:∃p,Jv n o.dst=some p∧∀a E,p.run a E=H9 o.dst a E:=by
    cases m:o.dst with
    |none=>exact⟨_,rfl,fun _ _=>rfl⟩
    |some d =>
     rw[m] at hd;have q:d<n:=As hd;unfold Jv;dsimp only;rw[Ag q];exact⟨_,rfl,fun _ _=>rfl⟩
   obtain⟨p,s,f⟩:=A;have B:x.d=o.dst∧x.o=r∧(Lq ops o).run E=Vo x.g E:=by
    cases g:o.guard with
    |none =>
     rw[g] at h;cases h;refine⟨rfl,rfl,?_⟩;unfold Lq;rw[g];rfl
    |some C =>
     obtain⟨j,w⟩:=C;rw[g] at h;dsimp only at h;cases y:(ops[j]?).bind (·.dst) with
     |none=>rw[y] at h;cases h
     |some t =>
      rw[y] at h;dsimp only at h;cases z:Nat.ble t I6 with
      |false=>rw[z] at h;cases h
      |true =>
       rw[z] at h;cases h;refine⟨rfl,rfl,?_⟩;unfold Lq;rw[g];dsimp only;rw[y];dsimp only;rw[Ag (As z)];rfl
   obtain⟨D,F,I⟩:=B;unfold Js Z2;rw[s];dsimp only;rw[I,D,F,zu3 (zr6 E) l H];cases Vo x.g E with
   |false=>simp only[f]
   |true =>
    dsimp only;cases Ht P (ρA E) H r with
    |no=>rfl
    |val v H'=>simp only[f]
    |call t args =>
     dsimp only;cases k t args H with
     |no=>rfl
     |ok v H'=>simp only[f]
def zvh {P:Program}{x:RI}{k k':J2}(hk:k.le k'){E f:Tr AV}{H H':Heap}(h:Z2 P x k E H=.ok f H'):Z2 P x k' E H=.ok f H':=by
 unfold Z2 at h ⊢;cases g:Vo x.g E with
 |false=>rw[g] at h;exact h
 |true =>
  rw[g] at h;dsimp only at h ⊢;cases a:Ht P (ρA E) H x.o with
  |no=>rw[a] at h;cases h
  |val v j=>rw[a] at h;exact h
  |call t args =>
   rw[a] at h;dsimp only at h ⊢;cases d:k t args H with
   |no=>rw[d] at h;cases h
   |ok v j=>rw[d] at h;rw[hk _ _ _ _ _ d];exact h
def K7 (ρ:Fi)(d:Option Nat)(v:LV):Fi:=match d with
 |none=>ρ
 |some d=>(d,v)::ρ
def setL (t:Nat)(v:LV):Fi→Fi
 |[]=>[]
 |(d,x)::l=>if t=d then (d,v)::l else (d,x)::setL t v l
def cq (v:LV)(A B Z:Prop):Prop:=match v with
 |.bool t=>M1 t A B
 |.tup []=>Z
 |_=>False
def Ud (P:Program)(x:LI)(ρ:Fi)(G:Ff)(K:Fi→Ff→Prop):Prop:=match x.g with
 |none=>Gl P ρ G x.o fun v G'=>K (K7 ρ x.d v) G'
 |some (t,true)=>cq (lk ρ t) (Gl P (setL t (.bool true) ρ) G x.o fun v G'=>K (K7 (setL t (.bool true) ρ) x.d v) G') (K (K7 (setL t (.bool false) ρ) x.d (.tup [])) G) (K (K7 ρ x.d (.tup [])) G)
 |some (t,false)=>cq (lk ρ t) (K (K7 (setL t (.bool true) ρ) x.d (.tup [])) G) (Gl P (setL t (.bool false) ρ) G x.o fun v G'=>K (K7 (setL t (.bool false) ρ) x.d v) G') (K (K7 ρ x.d (.tup [])) G)
def Zc {v:LV}{A B:Prop}(h:zq v A B):∃b,v=.bool b∧(b=true→A)∧(b=false→B):=by
 cases v with
 |bool b=>exact⟨b,rfl,h⟩
 |_=>exact h.elim
def zpv {v:LV}{A B Z:Prop}(h:cq v A B Z):(∃b,v=.bool b∧(b=true→A)∧(b=false→B))∨v=.tup []∧Z:=by
 unfold cq at h;split at h
 ·exact .inl ⟨_,rfl,h⟩
 ·exact .inr ⟨rfl,h⟩
 ·exact h.elim
def zyn {P:Program}{x:LI}{t:Nat}{w:Bool}(a:x.g=some (t,w)){ρ:Fi}{G:Ff}{K:Fi→Ff→Prop}(h:Ud P x ρ G K) :
  (∃b,lk ρ t=.bool b∧(b=w→Gl P (setL t (.bool w) ρ) G x.o fun v G'=>K (K7 (setL t (.bool w) ρ) x.d v) G')∧(b=!w→K (K7 (setL t (.bool (!w)) ρ) x.d (.tup [])) G))∨lk ρ t=.tup []∧K (K7 ρ x.d (.tup [])) G:=by
 unfold Ud at h;rw[a] at h;cases w with
 |true=>exact zpv h
 |false =>
  rcases zpv h with ⟨b,e,d,f⟩|h
  ·exact .inl ⟨b,e,f,d⟩
  ·exact .inr h
def Nv (P:Program):List LI→Fi→Ff→(Fi→Ff→Prop)→Prop
 |[],ρ,G,K=>K ρ G
 |x::l,ρ,G,K=>Ud P x ρ G fun a G'=>Nv P l a G' K
def Hc.put {c:Cx}{ρ:Fi}{E:Tr AV}(h:Hc c ρ E){v:LV}{a:AV}(ha:AR c v a)(d:Option Nat):Hc c (K7 ρ d v) (H9 d a E):=by
 cases d with
 |none=>exact h
 |some d =>
  intro t;show AR c (lk ((d,v)::ρ) t) ((Fk (F7 t) (Hs a (F7 d) E)).getD Km);rw[zhs,zit];by_cases e:t=d
  ·rw[Ag e,Ag e];exact ha
  ·rw[Ab e,Ab e];exact h t
def zx9 (t:Nat)(v:LV):∀(ρ:Fi) (a:Nat),lk (setL t v ρ) a=lk ρ a∨(a=t∧lk (setL t v ρ) a=v)
 |[],_=>.inl rfl
 |(d,x)::l,a=>by
  simp only[setL];by_cases h:t=d
  ·rw[Ag h];simp only[zit];by_cases f:a=d
   ·rw[Ag f];exact .inr ⟨by omega,rfl⟩
   ·rw[Ab f,Ab f];exact .inl rfl
  ·rw[Ab h];simp only[zit];by_cases f:a=d
   ·rw[Ag f,Ag f];exact .inl rfl
   ·rw[Ab f,Ab f];exact zx9 t v l a
def Hc.setL {c:Cx}{ρ:Fi}{E:Tr AV}(h:Hc c ρ E){t:Nat}{v:LV}(ha:AR c v ((Fk (F7 t) E).getD Km)):Hc c (Sv.setL t v ρ) E:=by
 intro t';rcases zx9 t v ρ t' with e|⟨rfl,e⟩
 ·rw[e];exact h t'
 ·rw[e];exact ha
section run
variable {P : Program} {c : Cx} {G : Ff}
def Xd (y:HSim c G){ρ:Fi}{E:Tr AV}(f:Hc c ρ E){x:LI}(B:x.o.ok=true){K:Fi→Ff→Prop}(h:Ud P x ρ G K) :
  ∃m q c' r G',Z2 P x.r (K8 P (OL P) m) E c.H=.ok q c'.H∧HSim c' G'∧Step c G c' G'∧Hc c' r q∧K r G':=by
 have main:∀ρ,Hc c ρ E→(Gl P ρ G x.o fun v G'=>K (K7 ρ x.d v) G')→Vo x.g E=true→∃m q c' r G',Z2 P x.r (K8 P (OL P) m) E c.H=.ok q c'.H∧HSim c' G'∧Step c G c' G'∧Hc c' r q∧K r G':=by
  intro ρ f h s;have l:=ym y f B h;unfold Kx at l;unfold Z2;rw[show x.r.g=x.g from rfl,s];dsimp only[LI.r];cases he:Ht P (ρA E) c.H x.o.r with
  |no=>rw[he] at l;exact l.elim
  |val v1 H' =>
   rw[he] at l;obtain⟨c',v,G',rfl,C,z,I,J⟩:=l;exact⟨0,_,c',_,G',rfl,C,z,(f.mono z.le).put I x.d,J⟩
  |call t1 o =>
   rw[he] at l;obtain⟨t,args,L,C,_,z⟩:=l;obtain⟨m,v1,H',M,c',v,G',rfl,N,H,O,Q⟩:=z c t1 o y L C;refine⟨m,_,c',_,G',?_,N,H,(f.mono H.le).put O x.d,Q⟩;dsimp only;rw[M]
 cases g:x.g with
 |none =>
  unfold Ud at h;rw[g] at h;exact main ρ f h (by rw[g];rfl)
 |some R =>
  obtain⟨t,w⟩:=R;have s:=g;rcases zyn g h with ⟨b,D,h⟩|⟨D,h⟩
  rotate_left
  ·have j:=f t;rw[D] at j;have p:Vo x.g E=false:=by
    rw[s];unfold Vo;dsimp only;cases A:Fk (F7 t) E with
    |none=>rfl
    |some a=>rw[A] at j;cases j;rfl
   refine⟨0,_,c,_,G,?_,y,.refl c G,f.put (.tup .nil) x.d,h⟩;unfold Z2;rw[show x.r.g=x.g from rfl,p];rfl
  ·have j:=f t;rw[D] at j;have d:Fk (F7 t) E=some (.bool b):=by
    cases A:Fk (F7 t) E with
    |none=>rw[A] at j;cases j
    |some a=>rw[A] at j;cases j;rfl
   by_cases e:b=w
   ·refine main _ (f.setL (by rw[d,←e];exact .bool b)) (h.1 e) ?_;rw[s];unfold Vo;dsimp only;rw[d,e];cases w<;>rfl
   ·have F:b=!w:=by cases b<;>cases w<;>simp_all
    refine⟨0,_,c,_,G,?_,y,.refl c G,(f.setL (by rw[d,←F];exact .bool b)).put (.tup .nil) x.d,h.2 F⟩;have p:Vo x.g E=false:=by
     rw[s];unfold Vo;dsimp only;rw[d,F];cases w<;>rfl
    unfold Z2;rw[show x.r.g=x.g from rfl,p];rfl
def zys {n:Nat}{ops:Array Oper}:∀{l:List LI} {os:List Oper} {c:Cx} {G:Ff} {ρ:Fi} {E:Tr AV} {K:Fi→Ff→Prop},zw P n ops os=some (lis l)→l.all (·.o.ok)=true→HSim c G→Hc c ρ E→Nv P l ρ G K →
  ∃m w c' f G',(bh P n ops os).run (K8 P (OL P) m) E c.H=.ok w c'.H∧HSim c' G'∧Step c G c' G'∧Hc c' f w∧K f G'
 |[],os,c,G,ρ,E,K,a,_,g,j,h=>by
  cases os with
  |nil=>exact⟨0,E,c,ρ,G,rfl,g,.refl c G,j,h⟩
  |cons o os =>
   simp only[zw] at a;split at a
   ·cases a
   ·split at a<;>cases a
 |x::l,os,c,G,ρ,E,K,a,d,g,j,h=>by
  cases os with
  |nil=>cases a
  |cons o os =>
   simp only[zw] at a;split at a
   ·cases a
   ·rename_i r p;split at a
    ·cases a
    ·rename_i rs q;simp only[lis,Option.some.injEq,List.cons.injEq] at a;obtain⟨rfl,rfl⟩:=a;simp only[Cv,Ac] at d;obtain⟨m1,E1,Q,R,S,z,y,A,B,C⟩:=Xd g j d.1 (show Ud P x ρ G fun f G'=>Nv P l f G' K from h);obtain⟨s,D,F,H,I,J,L,M,N,O⟩:=zys q d.2 y B C;refine⟨max m1 s,D,F,H,I,?_,L,.trans g y A M,N,O⟩;simp only[bh];rw[zgo p,zvh (Z0 (C3 m1 s)) z];dsimp only;exact zbv (Z0 (Dq m1 s)) J
end run
end Go.Sv
end
noncomputable section
namespace Go.Sv
inductive RC where
 |skip
 |ops (l:List RI)
 |draw (l:List (RI×List (RI×Bool)))
 |seq (a b:RC)
 |cond (c:Ox) (a b:RC)
 |block (id:Nat) (c:RC)
 |loop (c:RC)
 |rangeF (g:Ox) (ps:List Nat) (a b:RC)
 |exit (id:Nat)
 |scope (c:RC)
 |label
 |ret
 |stuck
inductive LC where
 |skip
 |ops (l:List LI)
 |draw (l:List (LI×List (LI×Bool)))
 |seq (a b:LC)
 |cond (c:Lx) (a b:LC)
 |block (id:Nat) (c:LC)
 |loop (c:LC)
 |rangeF (g:Lx) (ps:List Nat) (a b:LC)
 |exit (id:Nat)
 |scope (c:LC)
 |label
 |ret
 |stuck
def Ph (t:Nat):List Nat→Bool
 |[]=>false
 |a::l=>match Nat.beq t a with
  |true=>true
  |false=>Ph t l
def Rv (ops:Array Oper)(d:Option Nat)(x:DOp):Bool:=match d with
 |none=>true
 |some d=>match Ph d (N6 ops x.o) with
  |true=>false
  |false=>match x.o.dst with
   |none=>true
   |some e=>!(Nat.beq d e)
def Ou (x:DOp):Bool:=match x.c with
 |.al=>true
 |_=>false
def zl (P:Program)(n:Nat)(ops:Array Oper):List DOp→Option (List (RI×Bool))
 |[]=>some []
 |x::l=>match gy P n ops x.o with
  |none=>none
  |some r=>match zl P n ops l with
   |none=>none
   |some rs=>some ((r,Ou x)::rs)
def eqCls:Cls→Cls→Bool
 |.quiet,.quiet=>true
 |.rd,.rd=>true
 |.al,.al=>true
 |.ch,.ch=>true
 |_,_=>false
def vp (ops:Array Oper)(x:DOp):Bool:=match x.o.dst with
 |none=>false
 |some d=>!(Ph d (N6 ops x.o))
def qf (P:Program)(n:Nat)(ops:Array Oper):List DOp→List DOp→Option (List (RI×List (RI×Bool)))
 |[],_=>some []
 |x::l,pend=>match Pe (Rv ops x.o.dst) pend&&eqCls x.c (cls P x.o.op) with
  |false=>none
  |true=>match gy P n ops x.o with
   |none=>none
   |some r=>match x.c with
    |.quiet=>match qf P n ops l pend with
     |none=>none
     |some rs=>some ((r,[])::rs)
    |.rd=>match vp ops x with
     |false=>none
     |true=>match qf P n ops l (x::pend) with
      |none=>none
      |some rs=>some ((r,[])::rs)
    |.al=>match vp ops x with
     |false=>none
     |true=>match zl P n ops pend with
      |none=>none
      |some cs=>match qf P n ops l (x::pend) with
       |none=>none
       |some rs=>some ((r,cs)::rs)
    |.ch=>match zl P n ops (Gr (fun y=>!(Nat.testBit x.m y.i)) pend) with
     |none=>none
     |some cs=>match qf P n ops l (Gr (fun y=>!(Nat.testBit x.m y.i)) pend) with
      |none=>none
      |some rs=>some ((r,cs)::rs)
def zsi (P:Program)(n:Nat)(ops:Array Oper):Option (List (RI×List (RI×Bool))) :=
 let L:=Ji P ops ops.toList [] 0;let chain:=Gr Fy L;let ord:=zy3 L chain
 match zy1 ops.size L ord with
 |true=>qf P n ops ord []
 |false=>none
def Gn (P:Program)(n:Nat):Code→Option RC
 |.skip=>some .skip
 |.region _ ops draw=>match draw with
  |true=>match zsi P n ops with
   |none=>some .stuck
   |some l=>some (.draw l)
  |false=>match zw P n ops ops.toList with
   |none=>some .stuck
   |some l=>some (.ops l)
 |.seq a b=>match Gn P n a with
  |none=>none
  |some a=>match Gn P n b with
   |none=>none
   |some b=>some (.seq a b)
 |.cond c a b=>match He c with
  |none=>none
  |some c=>match Gn P n a with
   |none=>none
   |some a=>match Gn P n b with
    |none=>none
    |some b=>some (.cond c a b)
 |.block id c=>match Gn P n c with
  |none=>none
  |some c=>some (.block id c)
 |.loop c=>match Gn P n c with
  |none=>none
  |some c=>some (.loop c)
 |.rangeFunc g d a b=>match He g with
  |none=>none
  |some g=>match Gn P n a with
   |none=>none
   |some a=>match Gn P n b with
    |none=>none
    |some b=>some (.rangeF g d.toList a b)
 |.exit id=>some (.exit id)
 |.scope c=>match Gn P n c with
  |none=>none
  |some c=>some (.scope c)
 |.label _=>some .label
 |.ret=>some .ret
 |_=>some .stuck
def rck:List (LI×Bool)→List (RI×Bool)
 |[]=>[]
 |(x,b)::l=>(x.r,b)::rck l
def oj:List (LI×List (LI×Bool))→List (RI×List (RI×Bool))
 |[]=>[]
 |(x,c)::l=>(x.r,rck c)::oj l
def LC.r:LC→RC
 |.skip=>.skip
 |.ops l=>.ops (lis l)
 |.draw l=>.draw (oj l)
 |.seq a b=>.seq a.r b.r
 |.cond c a b=>.cond c.r a.r b.r
 |.block id c=>.block id c.r
 |.loop c=>.loop c.r
 |.rangeF g ps a b=>.rangeF g.r ps a.r b.r
 |.exit id=>.exit id
 |.scope c=>.scope c.r
 |.label=>.label
 |.ret=>.ret
 |.stuck=>.stuck
def LC.ok:LC→Bool
 |.ops l=>l.all (·.o.ok)
 |.draw l=>l.all fun x=>x.1.o.ok&&x.2.all (·.1.o.ok)
 |.seq a b=>a.ok&&b.ok
 |.cond c a b=>c.ok&&a.ok&&b.ok
 |.block _ c=>c.ok
 |.loop c=>c.ok
 |.rangeF g _ a b=>g.ok&&a.ok&&b.ok
 |.scope c=>c.ok
 |_=>true
abbrev Ja:=Ex→Fi→List Nat→Ff→Prop
inductive DRs (c:Cx):List Nat→List Nat→Prop where
 |nil:DRs c [] []
 |cons {p o:Nat} {l r:List Nat} (h:c.hd[p]?=some (0,.ptr o 0 0)) (hs:DRs c l r):DRs c (p::l) (o::r)
def DRs.mono {c c':Cx}(h:CxLe c c'):∀{l r:List Nat},DRs c l r→DRs c' l r
 |_,_,.nil=>.nil
 |_,_,.cons e es=>.cons (h.fix e rfl) (DRs.mono h es)
def ROr (c:Cx):Option Nat→Option Nat→Prop
 |none,none=>True
 |some p,some o=>c.hd[p]?=some (0,.ptr o 0 0)
 |_,_=>False
def ROr.mono {c c':Cx}(h:CxLe c c'){a b:Option Nat}(k:ROr c a b):ROr c' a b:=by
 cases a<;>cases b<;>first|exact k|exact h.fix k rfl
def W (P:Program)(f n:Nat)(s:LC)(ro:Option Nat)(ρ:Fi)(D:List Nat)(G:Ff)(Q:Ja):Prop :=
 ∀(code:Code) (c:Cx) (E:Tr AV) (g:List Nat) (a:Option Nat),Gn P n code=some s.r→s.ok=true→HSim c G→Hc c ρ E→DRs c D g→ROr c ro a →
  ∃m x h d c' j l G',(I0 P f n code).run (K8 P (OL P) m) m a E g c.H=.ok x h d c'.H∧HSim c' G'∧Step c G c' G'∧Hc c' j h∧DRs c' l d∧Q x j l G'
section rules
variable {P : Program} {f n : Nat} {ro : Option Nat} {ρ : Fi} {D : List Nat} {G : Ff} {Q : Ja}
def W.post {s:LC}{Q':Ja}(h:W P f n s ro ρ D G Q)(hq:∀x ρ D G,Q x ρ D G→Q' x ρ D G):W P f n s ro ρ D G Q':=by
 intro code c E D1 aa h1 h2 h3 h4 h5 h6;obtain⟨m,x,E',ad,c',ρ',D',G',q1,q2,q3,q4,q5,q6⟩:=h code c E D1 aa h1 h2 h3 h4 h5 h6;exact⟨m,x,E',ad,c',ρ',D',G',q1,q2,q3,q4,q5,hq _ _ _ _ q6⟩
def Xq {code:Code}(h:Gn P n code=some .skip):code=.skip:=by
 cases code<;>simp only[Gn] at h<;>first|rfl|(repeat' split at h)<;>cases h
def eg {code:Code}{l:List RI}(h:Gn P n code=some (.ops l)):∃id ops,code=.region id ops false∧zw P n ops ops.toList=some l:=by
 cases code<;>simp only[Gn] at h<;>(repeat' split at h)<;>cases h;exact⟨_,_,rfl,‹_›⟩
def Ws {code:Code}{l:List (RI×List (RI×Bool))}(h:Gn P n code=some (.draw l)):∃id ops,code=.region id ops true∧zsi P n ops=some l:=by
 cases code<;>simp only[Gn] at h<;>(repeat' split at h)<;>cases h;exact⟨_,_,rfl,‹_›⟩
def ff {code:Code}{a b:RC}(h:Gn P n code=some (.seq a b)):∃d g,code=.seq d g∧Gn P n d=some a∧Gn P n g=some b:=by
 cases code<;>simp only[Gn] at h<;>(repeat' split at h)<;>cases h;exact⟨_,_,rfl,‹_›,‹_›⟩
def W2 {code:Code}{x:Ox}{a b:RC}(h:Gn P n code=some (.cond x a b)):∃d g j,code=.cond d g j∧He d=some x∧Gn P n g=some a∧Gn P n j=some b:=by
 cases code<;>simp only[Gn] at h<;>(repeat' split at h)<;>cases h;exact⟨_,_,_,rfl,‹_›,‹_›,‹_›⟩
def T7 {code:Code}{id:Nat}{a:RC}(h:Gn P n code=some (.block id a)):∃d,code=.block id d∧Gn P n d=some a:=by
 cases code<;>simp only[Gn] at h<;>(repeat' split at h)<;>cases h;exact⟨_,rfl,‹_›⟩
def Xb {code:Code}{a:RC}(h:Gn P n code=some (.loop a)):∃d,code=.loop d∧Gn P n d=some a:=by
 cases code<;>simp only[Gn] at h<;>(repeat' split at h)<;>cases h;exact⟨_,rfl,‹_›⟩
def Zu {code:Code}{id:Nat}(h:Gn P n code=some (.exit id)):code=.exit id:=by
 cases code<;>simp only[Gn] at h<;>(repeat' split at h)<;>cases h;rfl
def zzy {code:Code}{a:RC}(h:Gn P n code=some (.scope a)):∃d,code=.scope d∧Gn P n d=some a:=by
 cases code<;>simp only[Gn] at h<;>(repeat' split at h)<;>cases h;exact⟨_,rfl,‹_›⟩
def T2 {code:Code}(h:Gn P n code=some .label):∃s,code=.label s:=by
 cases code<;>simp only[Gn] at h<;>(repeat' split at h)<;>cases h;exact⟨_,rfl⟩
def jf {code:Code}(h:Gn P n code=some .ret):code=.ret:=by
 cases code<;>simp only[Gn] at h<;>first|rfl|(repeat' split at h)<;>cases h
def uj (h:Q .normal ρ D G):W P f n .skip ro ρ D G Q:=by
 intro code c E a d g o j l m p;obtain rfl:=Xq g;exact⟨0,.normal,E,a,c,ρ,D,G,rfl,j,.refl c G,l,m,h⟩
def ew (h:Q .normal ρ D G):W P f n .label ro ρ D G Q:=by
 intro code c E a d g o j l m p;obtain⟨s,rfl⟩:=T2 g;exact⟨0,.normal,E,a,c,ρ,D,G,rfl,j,.refl c G,l,m,h⟩
def tx {id:Nat}(h:Q (.exit id) ρ D G):W P f n (.exit id) ro ρ D G Q:=by
 intro code c E a d g o j l m p;obtain rfl:=Zu g;exact⟨0,.exit id,E,a,c,ρ,D,G,rfl,j,.refl c G,l,m,h⟩
def W_ret (h:Q .ret ρ D G):W P f n .ret ro ρ D G Q:=by
 intro code c E a d g o j l m p;obtain rfl:=jf g;exact⟨0,.ret,E,a,c,ρ,D,G,rfl,j,.refl c G,l,m,h⟩
def jl {s:LC}(h:W P f n s ro ρ D G Q):W P f n (.scope s) ro ρ D G Q:=by
 intro code c E g a j l m o p q;obtain⟨r,rfl,d⟩:=zzy j;exact h r c E g a d l m o p q
def W_ops {l:List LI}(h:Nv P l ρ G fun a G'=>Q .normal a D G'):W P f n (.ops l) ro ρ D G Q:=by
 intro code c E g j o p q r s C;obtain⟨id,ops,rfl,w⟩:=eg o;obtain⟨m,x,c',a,G',y,z,d,A,B⟩:=zys w p q r h;refine⟨m,.normal,x,g,c',a,D,G',?_,z,d,A,s.mono d.le,B⟩;simp only[I0];rw[y]
def W_seq {a b:LC}(h:W P f n a ro ρ D G fun x g j G'=>match x with
  |.normal=>W P f n b ro g j G' Q
  |x=>Q x g j G'):W P f n (.seq a b) ro ρ D G Q:=by
 intro code c E H l I r C J K F;obtain⟨L,M,rfl,N,O⟩:=ff I;simp only[LC.ok,Ac] at r;obtain⟨m,x,s,d,c',g,j,G',w,p,q,y,z,A⟩:=h L c E H l N r.1 C J K F;cases x with
 |normal =>
  obtain⟨o,x,R,S,T,U,B,V,X,Y,Z,r4,r5,r6⟩:=A M c' s d l O r.2 p y z (F.mono q.le);refine⟨max m o,x,R,S,T,U,B,V,?_,Y,.trans C p q Z,r4,r5,r6⟩;simp only[I0];rw[o7 (Z0 (C3 m o)) (C3 m o) _ w];exact o7 (Z0 (Dq m o)) (Dq m o) _ X
 |exit id =>
  refine⟨m,.exit id,s,d,c',g,j,G',?_,p,q,y,z,A⟩;simp only[I0];rw[w]
 |ret =>
  refine⟨m,.ret,s,d,c',g,j,G',?_,p,q,y,z,A⟩;simp only[I0];rw[w]
def ts {x:Lx}{a b:LC}{t:Bool}(J:x.ev ρ=.bool t)(K:t=true→W P f n a ro ρ D G Q)(L:t=false→W P f n b ro ρ D G Q):W P f n (.cond x a b) ro ρ D G Q:=by
 intro code c E C g M h F j H I;obtain⟨R,N,O,rfl,l,o,p⟩:=W2 M;simp only[LC.ok,Ac] at h;have hv:=Hr j h.1.1;have r:=Nm l (zr6 E);have s:x.r.ev (ρA E)=.bool t:=by
  rw[J] at hv;generalize x.r.ev (ρA E)=w at hv;cases hv;rfl
 rw[s] at r;cases t with
 |true =>
  obtain⟨m,x,y,d,c',z,A,G',B,q⟩:=K rfl N c E C g o h.1.2 F j H I;refine⟨m,x,y,d,c',z,A,G',?_,q⟩;simp only[I0];rw[r];exact B
 |false =>
  obtain⟨m,x,y,d,c',z,A,G',B,q⟩:=L rfl O c E C g p h.2 F j H I;refine⟨m,x,y,d,c',z,A,G',?_,q⟩;simp only[I0];rw[r];exact B
def iq {id:Nat}{s:LC}(h:W P f n s ro ρ D G fun x d g G'=>match x with
  |.exit i=>if i=id then Q .normal d g G' else Q (.exit i) d g G'
  |x=>Q x d g G'):W P f n (.block id s) ro ρ D G Q:=by
 intro code c E A y B C F H I J;obtain⟨K,rfl,z⟩:=T7 B;obtain⟨m,x,l,a,c',d,g,G',o,p,q,r,w,j⟩:=h K c E A y z C F H I J;cases x with
 |normal =>
  refine⟨m,.normal,l,a,c',d,g,G',?_,p,q,r,w,j⟩;simp only[I0];rw[o]
 |exit i =>
  dsimp only at j;by_cases e:i=id
  ·rw[Ag e] at j;refine⟨m,.normal,l,a,c',d,g,G',?_,p,q,r,w,j⟩;simp only[I0];rw[o,e];dsimp only;rw[Bj]
  ·rw[Ab e] at j;refine⟨m,.exit i,l,a,c',d,g,G',?_,p,q,r,w,j⟩;simp only[I0];rw[o];dsimp only;cases L:Nat.beq i id with
   |true=>exact absurd (Am L) e
   |false=>rfl
 |ret =>
  refine⟨m,.ret,l,a,c',d,g,G',?_,p,q,r,w,j⟩;simp only[I0];rw[o]
def Zl {s:LC}(I:Fi→List Nat→Ff→Nat→Prop){N:Nat}(U:I ρ D G N)
  (h:∀N ρ D G,I ρ D G N→W P f n s ro ρ D G fun x d g G'=>match x with
   |.normal=>∃y,y<N∧I d g G' y
   |x=>Q x d g G'):W P f n (.loop s) ro ρ D G Q:=by
 intro code c E o l V X z F H A;obtain⟨T,rfl,J⟩:=Xb V;have key:∀N,∀(c:Cx) (E:Tr AV) (o:List Nat) (ρ:Fi) (D:List Nat) (G:Ff),I ρ D G N→HSim c G→Hc c ρ E→DRs c D o→ROr c ro l →
   ∃m p x j a c' d g G',Wp ((I0 P f n T).run (K8 P (OL P) m) m l) p E o c.H=.ok x j a c'.H∧HSim c' G'∧Step c G c' G'∧Hc c' d j∧DRs c' g a∧Q x d g G':=by
  intro N
  induction N using Nat.strongRecOn with
  |_ N Y =>
   intro c E o ρ D G Z z F H A;obtain⟨m,x,j,a,c',d,g,G',r,B,C,K,L,M⟩:=h N ρ D G Z T c E o l J X z F H A;cases x with
   |normal =>
    obtain⟨y,hN,O⟩:=M;obtain⟨w,R,x,E2,D2,c2,ρ2,S,G2,r1,r2,r3,r4,r5,r6⟩:=Y y hN c' j a d g G' O B K L (A.mono C.le);refine⟨max m w,R+1,x,E2,D2,c2,ρ2,S,G2,?_,r2,.trans z B C r3,r4,r5,r6⟩;simp only[Wp];rw[o7 (Z0 (C3 m w)) (C3 m w) _ r];exact zcr (fun _ _ _ _ _ _ _ e=>o7 (Z0 (Dq m w)) (Dq m w) _ e) (Al _) r1
   |exit id =>
    refine⟨m,1,.exit id,j,a,c',d,g,G',?_,B,C,K,L,M⟩;simp only[Wp];rw[r]
   |ret =>
    refine⟨m,1,.ret,j,a,c',d,g,G',?_,B,C,K,L,M⟩;simp only[Wp];rw[r]
 obtain⟨m,p,x,j,a,c',d,g,G',r,q⟩:=key N c E o ρ D G U z F H A;refine⟨max m p,x,j,a,c',d,g,G',?_,q⟩;simp only[I0];exact zcr (fun _ _ _ _ _ _ _ e=>o7 (Z0 (C3 m p)) (C3 m p) _ e) (Dq m p) r
end rules
inductive RRes where
 |tmp (t:Nat)
 |cell1 (t:Nat)
 |cellN (t n:Nat)
def uz (P:Program):ResultVar→Option RRes
 |.tmp t=>match Nat.ble t I6 with
  |true=>some (.tmp t)
  |false=>none
 |.cell a t=>match Nat.ble a I6 with
  |true=>match Lv P t,H0 P t with
   |some true,some n=>some (.cellN a n)
   |some false,some _=>some (.cell1 a)
   |_,_=>none
  |false=>none
def Ps (P:Program):List ResultVar→Option (List RRes)
 |[]=>some []
 |r::l=>match uz P r with
  |none=>none
  |some a=>match Ps P l with
   |none=>none
   |some b=>some (a::b)
structure RF where
 n:Nat
 c:RC
 rs:List RRes
def Fu (P:Program)(f:Nat):Option RF :=
 match gq P f && !(zs P f) && !(zd P f) with
 |false=>none
 |true=>match P.funcs[f]? with
  |none=>none
  |some fn=>match fn.body with
   |none=>none
   |some b=>match Nat.ble fn.ntmps I6 with
    |false=>none
    |true=>match Gn P fn.ntmps b with
     |none=>none
     |some c=>match Ps P fn.results.toList with
      |none=>none
      |some rs=>some ⟨fn.ntmps,c,rs⟩
def Jt (ρ:Fi)(G:Ff):List RRes→(List LV→Prop)→Prop
 |[],K=>K []
 |r::l,K=>match r with
  |.tmp t=>Jt ρ G l fun vs=>K (lk ρ t::vs)
  |.cell1 t=>Rk G (lk ρ t) fun v=>Jt ρ G l fun vs=>K (v::vs)
  |.cellN t n=>Ru G (lk ρ t) n fun cs=>Jt ρ G l fun vs=>K (.agg cs::vs)
def Mi:List LV→LV
 |[v]=>v
 |l=>.tup l
def V6:List LV→Nat→Fi
 |[],_=>[]
 |v::l,i=>(i,v)::V6 l (i+1)
def jn:List Nat→Ff→(Ff→Prop)→Prop
 |[],G,K=>K G
 |d::l,G,K=>match G[d]? with
  |some (.defd true)=>jn l (G.set d (.defd false)) K
  |_=>False
section fns
variable {P : Program}
def zk9 {c:Cx}{G:Ff}{ρ:Fi}{E:Tr AV}(p:HSim c G)(j:Hc c ρ E):∀{l:List ResultVar} {rs:List RRes} {K:List LV→Prop},Ps P l=some rs→Jt ρ G rs K→∃vs as,(oz P l).run E c.H=some as∧ARs c vs as∧K vs
 |[],rs,K,h,k=>by cases h;exact⟨[],[],rfl,.nil,k⟩
 |r::l,rs,K,h,k=>by
  simp only[Ps] at h;split at h
  ·cases h
  ·rename_i a d;split at h
   ·cases h
   ·rename_i b y;cases h;simp only[oz];cases r with
    |tmp t =>
     simp only[uz] at d;split at d
     ·rename_i z;cases d;obtain⟨vs,as,q,s,x⟩:=zk9 p j y (show Jt ρ G b (fun vs=>K (lk ρ t::vs)) from k);have g:(F8 (.tmp t)).run E=some ((Fk (F7 t) E).getD Km):=by
       unfold F8;dsimp only;rw[z];dsimp only;cases Fk (F7 t) E<;>rfl
      refine⟨_,_,?_,.cons (j t) s,x⟩;simp only[resF];rw[g,q]
     ·cases d
    |cell t ty =>
     simp only[uz] at d;split at d
     ·rename_i z;have g:(F8 (.tmp t)).run E=some ((Fk (F7 t) E).getD Km):=by
       unfold F8;dsimp only;rw[z];dsimp only;cases Fk (F7 t) E<;>rfl
      split at d
      ·rename_i m A B;cases d;obtain⟨o,v,i,l',cs,C,F,H,I⟩:=znd p (j t) (show Ru G (lk ρ t) m (fun cs=>Jt ρ G b fun vs=>K (.agg cs::vs)) from k);obtain⟨vs,as,q,s,x⟩:=zk9 p j y I;refine⟨_,_,?_,.cons (.agg H) s,x⟩;simp only[Sv.resF,A,B];rw[g,C];dsimp only;rw[F,q]
      ·rename_i m A B;cases d;obtain⟨o,v,i,w,bb,C,F,H,I⟩:=zt9 p (j t) (show Rk G (lk ρ t) (fun v=>Jt ρ G b fun vs=>K (v::vs)) from k);obtain⟨vs,as,q,s,x⟩:=zk9 p j y I;refine⟨_,_,?_,.cons H s,x⟩;simp only[Sv.resF,A,B];rw[g,C];dsimp only;rw[F];dsimp only;rw[q]
      ·cases d
     ·cases d
end fns
end Go.Sv
end
namespace Go.Sv
section fns
variable {P : Program}
def lk_argsL:∀(l:List LV) (i t:Nat),lk (V6 l i) t=if i≤t∧t<i+l.length then l.getD (t - i) .any else .any
 |[],i,t=>by simp only[V6,Y4,Bc];rw[Ab (by omega)]
 |v::l,i,t=>by
  simp only[V6,zit,Ar];rw[lk_argsL l (i+1) t];by_cases h:t=i
  ·subst h;rw[Ag rfl,Ag (by omega)];simp
  ·rw[Ab h];by_cases a:i+1≤t∧t<i+1+l.length
   ·rw[Ag a,Ag (by omega),show t - i=(t - (i+1))+1 from by omega];simp
   ·rw[Ab a,Ab (by omega)]
def Hc.start {c:Cx}{args:List LV}{aa:List AV}(h:ARs c args aa):Hc c (V6 args 0) (Kd aa 0 .e):=by
 intro t;rw[lk_argsL,get_ofList,Rs];have hl:=h.length;by_cases ht:t<args.length
 ·rw[Ag (by omega),Ag (by omega)];obtain⟨a,q1,q2⟩:=h.get (Ai ht);rw[Nat.sub_zero,q1,Ae,Ai ht];exact q2
 ·rw[Ab (by omega)];exact .any _
def zn1 {K:Ff→Prop}:∀{D:List Nat} {l:List Nat} {c:Cx} {G:Ff},DRs c D l→HSim c G→jn D G K→∃c' G',uq l c.H=some c'.H∧HSim c' G'∧Step c G c' G'∧K G'
 |[],_,c,G,.nil,a,h=>⟨c,G,rfl,a,.refl c G,h⟩
 |d::D,_,c,G,.cons (o:=o) e es,a,h=>by
  simp only[jn] at h;split at h
  ·rename_i g;obtain⟨_,m,he,f⟩:=a.obj d _ _ _ g e;injection he with he
   subst he;obtain⟨p,r,s⟩:=a.upd (k':=0) (x':=.ptr o 0 0) (ob':=.defd false) (H':=c.H.put o (.defd false)) g rfl e (Al _) (fun m _ j=>Heap.get_put_ne _ _ (fun q=>j (by rw[q];rfl)))
    (fun m w=>by cases w;exact⟨.inl rfl,a.lt o ⟨d,_,_,_,g,rfl,e,rfl⟩⟩) (Al _) (fun _=>rfl) (fun _=>rfl) (.inr ⟨rfl,Al _⟩) (fun _=>⟨rfl,o,rfl,Heap.get_put_same _ _ _⟩)
   obtain⟨c',G',x,y,z,A⟩:=zn1 (es.mono s) p h;refine⟨c',G',?_,y,.trans a p r z,A⟩;simp only[uq];rw[f];exact x
  ·exact h.elim
def ka:List AV→AV
 |[v]=>v
 |l=>.tup l
def zwe {f:Nat}{s:LC}{n:Nat}{rs:List RRes}(d:Fu P f=some ⟨n,s.r,rs⟩)(w:s.ok=true){args:List LV}(O:args.length≤n){G:Ff}{K:LV→Ff→Prop}
  (h:W P f n s none (V6 args 0) [] G fun x ρ D G'=>(match x with | .exit _=>False|_=>True)∧jn D G' fun r=>Jt ρ r rs fun vs=>K (Mi vs) r):Ju P (.fn f) args G K:=by
 unfold Fu at d;split at d
 ·cases d
 ·rename_i j;simp only[Ac,Bu] at j;refine⟨j.1,fun c t1 l F H I=>?_⟩;cases t1 with
  |yield o=>exact H.elim
  |fn g =>
   obtain rfl:f=g:=H;split at d
   ·cases d
   ·rename_i fn y;split at d
    ·cases d
    ·rename_i b Q;split at d
     ·cases d
     ·rename_i p;split at d
      ·cases d
      ·rename_i rc z;split at d
       ·cases d
       ·rename_i R A;cases d;obtain⟨m,x,E',S,c',ρ',D',G',T,J,U,V,X,Y,Z⟩:=h b c _ [] none z w F (Hc.start I) .nil trivial;obtain⟨B,r,L,M,N,r4⟩:=zn1 X J Z;obtain⟨vs,as,s1,s2,s3⟩:=zk9 M (V.mono N.le) A r4;have q:AR B (Mi vs) (ka as):=by
         cases s2 with
         |nil=>exact .tup .nil
         |cons e es =>
          cases es with
          |nil=>exact e
          |cons e2 C=>exact .tup (.cons e (.cons e2 C))
        refine⟨m+1,ka as,B.H,?_,B,Mi vs,r,rfl,M,.trans F J U N,q,s3⟩;unfold K8;dsimp only;rw[OL_no j.2];dsimp only;unfold oc;rw[y];dsimp only;rw[Q];dsimp only;rw[Ag (As p)];dsimp only;have E:Nat.ble l.length fn.ntmps=true:=Ak (by rw[←I.length];exact O);rw[E];dsimp only;rw[T];dsimp only;cases x with
        |exit id=>exact Y.elim
        |normal =>
         dsimp only;rw[L];dsimp only;rw[s1];rcases as with _|⟨a,_|⟨a2,as⟩⟩<;>rfl
        |ret =>
         dsimp only;rw[L];dsimp only;rw[s1];rcases as with _|⟨a,_|⟨a2,as⟩⟩<;>rfl
def Ju.mono {t:LTgt}{args:List LV}{G:Ff}{K K':LV→Ff→Prop}(h:Ju P t args G K)(hk:∀v G,K v G→K' v G):Ju P t args G K' :=
 ⟨h.1,fun c t1 aa h1 h2 h3=>by
  obtain⟨m,v1,H',q1,c',v,G',q2,q3,q4,q5,q6⟩:=h.2 c t1 aa h1 h2 h3;exact⟨m,v1,H',q1,c',v,G',q2,q3,q4,q5,hk _ _ q6⟩⟩
mutual
def LV.sim (m:Nat):LV→Bool
 |.bool _ |.u _ |.b _ |.i _ |.int _ _ |.str _ |.nilPtr |.nilSl |.nilMap |.nilFn |.nilIf=>true
 |.dy j k=>k==0&&decide (j<m)
 |.agg l=>sims m l
 |.tup l=>sims m l
 |_=>false
def sims (m:Nat):List LV→Bool
 |[]=>true
 |v::l=>v.sim m&&sims m l
end
mutual
def subV (sel:List LV):LV→LV
 |.dy j _=>sel.getD j .any
 |.agg l=>.agg (subVs sel l)
 |.tup l=>.tup (subVs sel l)
 |v=>v
def subVs (sel:List LV):List LV→List LV
 |[]=>[]
 |v::l=>subV sel v::subVs sel l
end
def xi (p:Nat):LV→Prop
 |.dy q _=>q≠p
 |_=>True
def Pz (G:Ff):List LV→Ff→Prop
 |[],[]=>True
 |.dy p k::s,.dyn l len esz a st::g=>a=0∧l.all LV.scal=true∧(∃d,G[p]?=some (.dyn l len esz k d))∧st=0∧(∀x∈s,xi p x)∧Pz G s g
 |.nilSl::s,.dyn l len _ a st::g=>a=0∧st=0∧l=[]∧len=0∧Pz G s g
 |_,_=>False
def Hf (P:Program)(f:Nat)(args:List LV)(h:LV)(g:Ff):Prop :=
 P9 P (.fn f)∧h.sim g.length=true∧(∀(j:Nat) (ob:LObj),g[j]?=some ob→∃l len esz,ob=.dyn l len esz 0 0∧l.all LV.scal=true)∧∀(Fz:Nat→Prop) (H:Heap) (a:List AV),(∀o,Fz o→o<H.next)→ARs ⟨[],Fz,H⟩ args a →
  ∃m v1 d H',K8 P (OL P) m (.fn f) a H=.ok v1 H'∧HSim ⟨d,Fz,H'⟩ g∧AR ⟨d,Fz,H'⟩ h v1∧H.next≤H'.next∧(∀o,o<H.next→H'.get o=H.get o)∧∀o,Ij ⟨d,Fz,H'⟩ g o→H.next≤o
def zf3 {c c':Cx}:∀{l:List LV} {r:List AV},l.all LV.scal=true→ARs c l r→ARs c' l r
 |[],_,_,.nil=>.nil
 |v::l,_,h,.cons e es=>by
  simp only[Cv,Ac] at h;refine .cons ?_ (zf3 h.2 es);cases v<;>first|(cases h.1;done)|(cases e;constructor)
def HSim.empty {Fz:Nat→Prop}{H:Heap}(h:∀o,Fz o→o<H.next):HSim ⟨[],Fz,H⟩ [] :=
 ⟨rfl,h,fun o ⟨p,_,_,_,e,_⟩=>by simp at e,fun o ⟨p,_,_,_,e,_⟩=>by simp at e,fun p _ _ _ e=>by simp at e,fun p _ _ _ _ _ _ _ _ e=>by simp at e⟩
def zjc {c:Cx}{G:Ff}(A:HSim c G):∀{sel:List LV} {B:Ff},Pz G sel B→∃g:List (Nat×AV),g.length=B.length ∧
  (∀(j:Nat) (ob:LObj) (k:Nat) (h:AV),B[j]?=some ob→g[j]?=some (k,h)→k=0∧(∀c':Cx,c'.H=c.H→qp c' 0 h ob)∧(∃l len esz,ob=.dyn l len esz 0 0∧l.all LV.scal=true) ∧
   ((sel[j]?=some .nilSl∧h=.nilSl)∨∃p k',sel[j]?=some (.dy p k')∧c.hd[p]?=some (k',h)∧(∀o,Gq h=some o→Ij c G o)∧∃m,G[p]?=some m∧m.live=true)) ∧
  (∀(i j p k q k':Nat),sel[i]?=some (.dy p k)→sel[j]?=some (.dy q k')→p=q→i=j)
 |[],[],_=>⟨[],rfl,fun j ob k h e=>by simp at e,fun i j p k q k' e=>by simp at e⟩
 |[],_::_,h=>h.elim
 |s::sel,[],h=>by cases s<;>exact h.elim
 |s::sel,ob::B,h=>by
  cases s<;>cases ob<;>first|exact h.elim|skip
  ·rename_i l len esz D st;obtain⟨rfl,rfl,rfl,rfl,h⟩:=h;obtain⟨g,E,F,H⟩:=zjc A h;refine⟨(0,.nilSl)::g,by simp[E],fun j ob k h a d=>?_,fun i j p k q k' a d r=>?_⟩
   ·cases j with
    |zero =>
     simp only[A6,Option.some.injEq] at a d;cases a;cases d;exact⟨rfl,fun c' _=>⟨rfl,by simp,.inl ⟨rfl,rfl⟩⟩,⟨_,_,_,rfl,rfl⟩,.inl ⟨rfl,rfl⟩⟩
    |succ j=>exact F j ob k h (by simpa using a) (by simpa using d)
   ·cases i with
    |zero=>simp at a
    |succ i=>cases j with
     |zero=>simp at d
     |succ j=>have:=H i j p k q k' (by simpa using a) (by simpa using d) r;omega
  ·rename_i p k l len esz D st;obtain⟨rfl,w,⟨M,C⟩,rfl,I,h⟩:=h;obtain⟨g,E,F,H⟩:=zjc A h;have N:p<c.hd.length:=by rw[A.len];exact (Aa.1 C).1
   obtain⟨W,O,J⟩:∃k h,c.hd[p]?=some (k,h):=⟨_,_,Ai N⟩;have x:=A.obj p _ _ _ C J;have hk:=x.1;subst hk;have f:∀(j q k':Nat),sel[j]?=some (.dy q k')→q≠p:=fun j q k' e=>I _ (A7 e)
   refine⟨(0,O)::g,by simp[E],fun j ob k h a d=>?_,fun i j L k q k' a d r=>?_⟩
   ·cases j with
    |zero =>
     simp only[A6,Option.some.injEq] at a d;cases a;cases d;refine⟨rfl,fun c' K=>?_,⟨_,_,_,rfl,w⟩,.inr ⟨p,_,rfl,J,fun o ho=>⟨p,_,_,_,C,rfl,J,ho⟩,_,C,rfl⟩⟩;obtain⟨_,Q,y⟩:=x;refine⟨rfl,Q,?_⟩;rcases y with y|⟨o,v,room,t,z,l',y,R,S,T,U,V⟩
     ·exact .inl y
     ·exact .inr ⟨o,v,room,t,z,l',y,by rw[K];exact R,S,T,zf3 w U,V⟩
    |succ j=>exact F j ob k h (by simpa using a) (by simpa using d)
   ·cases i with
    |zero =>
     simp only[A6,Option.some.injEq] at a;cases a;cases j with
     |zero=>rfl
     |succ j=>exact absurd r.symm (f j q k' (by simpa using d))
    |succ i=>cases j with
     |zero =>
      simp only[A6,Option.some.injEq] at d;cases d;exact absurd r (f i L k (by simpa using a))
     |succ j=>have:=H i j L k q k' (by simpa using a) (by simpa using d) r;omega
mutual
def sub_AR {c c':Cx}{sel:List LV}(hsel:∀(j:Nat) (v:LV) (a:AV),sel[j]?=some v→AR c v a→AR c' (.dy j 0) a)(v:LV)(a:AV)(hsim:v.sim sel.length=true)(h:AR c (subV sel v) a):AR c' v a:=by
 cases v with
 |dy j k =>
  simp only[LV.sim,Ac,Dz,Ao] at hsim;obtain⟨rfl,hjl⟩:=hsim;refine hsel j _ a (Ai hjl) ?_;unfold subV at h
  rwa [Ae,Ai hjl] at h
 |agg l =>
  simp only[LV.sim] at hsim;simp only[subV] at h;cases h with
  |agg h=>exact .agg (sub_ARs hsel l _ hsim h)
 |tup l =>
  simp only[LV.sim] at hsim;simp only[subV] at h;cases h with
  |tup h=>exact .tup (sub_ARs hsel l _ hsim h)
 |_=>first|(simp only[LV.sim] at hsim;cases hsim;done)|(simp only[subV] at h;cases h;constructor)
termination_by SizeOf.sizeOf v
def sub_ARs {c c':Cx}{sel:List LV}(hsel:∀(j:Nat) (v:LV) (a:AV),sel[j]?=some v→AR c v a→AR c' (.dy j 0) a)(l:List LV)(r:List AV)(hsim:sims sel.length l=true)(h:ARs c (subVs sel l) r):ARs c' l r:=by
 cases l with
 |nil=>simp only[subVs] at h;cases h;exact .nil
 |cons v l =>
  simp only[sims,Ac] at hsim;simp only[subVs] at h;cases h with
  |cons e es=>exact .cons (sub_AR hsel v _ hsim.1 e) (sub_ARs hsel l _ hsim.2 es)
termination_by SizeOf.sizeOf l
end
def Hf.mk {f:Nat}{args:List LV}{v0:LV}{G0:Ff}(ad:v0.sim G0.length=true)(h:Ju P (.fn f) args [] fun v G=>∃sel,v=subV sel v0∧sel.length=G0.length∧Pz G sel G0)(hG:∀(j:Nat) (ob:LObj),G0[j]?=some ob→∃l len esz,ob=.dyn l len esz 0 0∧l.all LV.scal=true):Hf P f args v0 G0:=by
 refine⟨h.1,ad,hG,fun Fz H ah aj ha=>?_⟩;obtain⟨m,v1,H',q1,c1,v,G,rfl,q3,q4,q5,sel,rfl,hlen,hr⟩:=h.2 ⟨[],Fz,H⟩ (.fn f) ah (.empty aj) rfl ha;obtain⟨aa,r1,r2,r3⟩:=zjc q3 hr;have ao:∀(j:Nat) (ob:LObj),G0[j]?=some ob→∃k h,aa[j]?=some (k,h):=fun j ob e=>⟨_,_,Ai (by rw[r1];exact (Aa.1 e).1)⟩
 have af:∀o,Ij ⟨aa,Fz,c1.H⟩ G0 o→Ij c1 G o:=by
  rintro o ⟨j,ob,k,h,e1,e2,e3,e4⟩;obtain⟨_,_,_,s4⟩:=r2 j ob k h e1 e3;rcases s4 with ⟨_,s4⟩|⟨p,k',_,_,s6,_⟩
  ·rw[s4] at e4;cases e4
  ·exact s6 o e4
 have ag:∀o,Ij ⟨aa,Fz,c1.H⟩ G0 o→H.next≤o:=fun o ho=>by
  rcases q4.new o (af o ho) with ⟨p,_,_,_,e,_⟩|h
  ·simp at e
  ·exact h
 have ap:∀o,¬Ij ⟨[],Fz,H⟩ [] o:=fun o ⟨p,_,_,_,e,_⟩=>by simp at e
 have aq:HSim ⟨aa,Fz,c1.H⟩ G0:=by
  refine⟨r1,fun o ho=>Bh (aj o ho) q4.nx,fun o ho=>q3.lt o (af o ho),fun o ho hf=>?_,fun j ob k h e1 e2=>?_,fun i j ob ob' k h k' h' o e1 e2 e3 e4 e5 e6 e7 e8=>?_⟩
  ·have:=ag o ho;have:=aj o hf;omega
  ·obtain⟨s1,s2,_⟩:=r2 j ob k h e1 e2;rw[s1];exact s2 _ rfl
  ·obtain⟨_,_,_,s4⟩:=r2 i ob k h e1 e5;obtain⟨_,_,_,t4⟩:=r2 j ob' k' h' e2 e6;rcases s4 with ⟨_,s4⟩|⟨p,kp,s5,s6,_,o1,g1,g2⟩
   ·rw[s4] at e7;cases e7
   ·rcases t4 with ⟨_,t4⟩|⟨q,kq,t5,t6,_,o2,g3,g4⟩
    ·rw[t4] at e8;cases e8
    ·refine r3 i j p kp q kq s5 t5 ?_;exact q3.excl p q o1 o2 kp h kq h' o g1 g3 g2 g4 s6 t6 e7 e8
 refine⟨m,v1,aa,c1.H,q1,aq,?_,q4.nx,fun o ho=>q4.frame o ho (ap o),ag⟩;refine sub_AR (c:=c1) (fun j v a e1 e2=>?_) v0 v1 (by rw[hlen];exact ad) q5;have hj:j<G0.length:=by rw[←hlen];exact (Aa.1 e1).1
 obtain⟨k,h,e3⟩:=ao j _ (Ai hj);obtain⟨rfl,_,_,s4⟩:=r2 j _ k h (Ai hj) e3;rcases s4 with ⟨s4,s5⟩|⟨p,k',s4,s5,_⟩
 ·rw[e1] at s4;cases s4;cases e2;exact .dy e3 (Al _) (fun _=>s5.symm) rfl
 ·rw[e1] at s4;cases s4;cases e2 with
  |dy f1 f2 f3 f4 =>
   rw[s5] at f1;cases f1;exact .dy e3 (Al _) (fun _=>f3 rfl) f4
end fns
end Go.Sv
noncomputable section
namespace Go.Sv
def j6 (ρ:Fi)(G:Ff):LOp→Option (Option Nat)
 |.load1 x |.loadN _ x=>match x.ev ρ with
  |.ptr p _=>some (some p)
  |.dptr p k _=>match G[p]? with
   |some (.dyn _ _ _ a _)=>if k=a then some (some p) else none
   |_=>none
  |.cptr _ _=>some none
  |_=>none
 |.cvStr x=>match x.ev ρ with
  |.nilSl=>some none
  |.lst _ _ _=>some none
  |.dy p k=>match G[p]? with
   |some (.dyn _ _ _ a _)=>if k=a then some (some p) else none
   |_=>none
  |_=>none
 |_=>none
def nr (G G':Ff)(p:Nat):Prop:=match G[p]?,G'[p]? with
 |some a,some b=>a.stp=true∧a.st=b.st
 |_,_=>False
def tl (ρ:Fi)(G G':Ff)(x:LI×Bool):Prop:=match x.2 with
 |false=>match j6 ρ G x.1.o with
  |some none=>True
  |some (some p)=>nr G G' p
  |none=>False
 |true=>match x.1.d with
  |none=>False
  |some d=>match lk ρ d with
   |.ptr p _=>nr G G' p
   |.dy p k=>(match G[p]? with
    |some (.dyn _ _ _ a _)=>k=a
    |_=>False)∧nr G G' p
   |_=>False
def ckL (ρ:Fi)(G G':Ff)(x:LI×Bool):Prop:=match x.1.g with
 |none=>tl ρ G G' x
 |some (t,w)=>match lk ρ t with
  |.bool b=>b=w→tl ρ G G' x
  |_=>tl ρ G G' x
def Pg (ρ:Fi)(G G':Ff):List (LI×Bool)→Prop
 |[]=>True
 |x::l=>ckL ρ G G' x∧Pg ρ G G' l
def Vq (P:Program):List (LI×List (LI×Bool))→Fi→Ff→(Fi→Ff→Prop)→Prop
 |[],ρ,G,K=>K ρ G
 |(x,cs)::l,ρ,G,K=>Ud P x ρ G fun a G'=>Pg ρ G G' cs∧Vq P l a G' K
section al
variable {P : Program}
def zxh {v:AV}{id n:Nat}(h:Gq v=some id):Jg id (Jg n v)=v:=by
 cases v<;>first|(cases h;done)|(cases h;rfl)
def zlo {H H1:Heap}{l:List AV}{v:AV}(h:Q0 H l=.val v H1):∃ob,H1=H.push ob∧Gq v=some H.next∧∀a,Q0 a l=.val (Jg a.next v) (a.push ob):=by
 unfold Q0 newObj at h;cases h;exact⟨_,rfl,rfl,fun a=>rfl⟩
def zob {H H1:Heap}{l:List AV}{a b:Nat}{r:Option Nat}{v:AV}(h:(match newObj H l with
  |some (o,H')=>OR.val (.sl o 0 0 a b r) H'
  |none=>.no)=.val v H1):∃ob,H1=H.push ob∧Gq v=some H.next∧∀d,(match newObj d l with
  |some (o,H')=>OR.val (.sl o 0 0 a b r) H'
  |none=>.no)=.val (Jg d.next v) (d.push ob):=by
 unfold newObj at h;cases h;exact⟨_,rfl,rfl,fun d=>rfl⟩
def xz {o:Op}(d:cls P o=.al){E:Tr AV}{H H1:Heap}{v:AV}(h:(Gw P o).run E H=.val v H1):∃ob,H1=H.push ob∧Gq v=some H.next∧∀g,(Gw P o).run E g=.val (Jg g.next v) (g.push ob):=by
 cases o with
 |alloc t =>
  simp only[Gw] at h ⊢;split at h
  ·exact zlo h
  ·cases h
 |box t x =>
  simp only[Gw,I5] at h ⊢;cases j:(F8 x).run E with
  |none=>rw[j] at h;cases h
  |some a =>
   rw[j] at h;dsimp only at h ⊢;cases p:a.cells with
   |none=>rw[p] at h;cases h
   |some l=>rw[p] at h;exact zlo h
 |buildSlice t len parts =>
  simp only[Gw,m9] at h ⊢;split at h
  ·split at h
   ·cases h
   ·split at h
    ·cases h
    ·rename_i z A;by_cases s:len * ‹Nat›≤2^20∧0 < ‹Nat›
     ·rw[Ag s] at h ⊢;split at h
      ·cases h
      ·dsimp only at h ⊢;split at h
       ·exact zob h
       ·cases h
     ·rw[Ab s] at h;cases h
  ·cases h
 |makeSlice t l c =>
  simp only[Gw,nf] at h ⊢;split at h
  ·split at h
   ·cases h
   ·split at h
    ·cases h
    ·split at h
     ·rename_i i hi z A s;simp only[Ag s];simp only[Mp] at h ⊢;cases p:(F8 l).run E with
      |none=>rw[p] at h;cases h
      |some a =>
       rw[p] at h;cases q:(F8 c).run E with
       |none=>rw[q] at h;cases h
       |some b =>
        rw[q] at h;dsimp only at h ⊢;split at h
        ·rename_i n m;cases w:Nat.ble n m with
         |false=>rw[w] at h;cases h
         |true =>
          rw[w] at h;cases y:Nat.ble m 1048576 with
          |false=>rw[y] at h;cases h
          |true=>rw[y] at h;exact zob h
        ·cases h
     ·cases h
  ·cases h
 |makeMap t r =>
  have pm:∀{v:AV} {H1:Heap},S0 H=.val v H1→∃ob,H1=H.push ob∧Gq v=some H.next∧∀g,S0 g=.val (Jg g.next v) (g.push ob):=fun h=>by
   unfold S0 at h;cases h;exact⟨_,rfl,rfl,fun g=>rfl⟩
  simp only[Gw,nq] at h ⊢;split at h
  ·exact pm h
  ·rename_i x;split at h
   ·simp only[I5] at h ⊢;cases j:(F8 x).run E with
    |none=>rw[j] at h;cases h
    |some a =>
     rw[j] at h;dsimp only at h ⊢;split at h
     ·exact pm h
     ·cases h
   ·cases h
 |_ =>
  exfalso;simp only[cls] at d
  first
   |(cases d;done)
   |(split at d<;>first|(cases d;done)|(split at d<;>cases d))
   |(simp only[y8] at d;split at d<;>first|(cases d;done)|(split at d<;>first|(cases d;done)|(split at d<;>cases d)))
end al
section draw
variable {P : Program} {n : Nat} {ops : Array Oper}
def N8 (P:Program)(ops:Array Oper)(x:DOp)(E:Tr AV)(H:Heap):Prop:=match x.c with
 |.rd=>(Lq ops x.o).run E=true→∃d v,x.o.dst=some d∧Fk (F7 d) E=some v∧(Gw P x.o.op).run E H=.val v H
 |.al=>(Lq ops x.o).run E=true→∃d v id ob,x.o.dst=some d∧Fk (F7 d) E=some v∧Gq v=some id∧H.get id=some ob∧∀a,(Gw P x.o.op).run E a=.val (Jg a.next v) (a.push ob)
 |_=>True
def za1 {x:DOp}{E:Tr AV}{H:Heap}(h:N8 P ops x E H)(g:x.c=.rd∨x.c=.al)(hd:vp ops x=true):(Vm P ops x).run E H=true:=by
 unfold Vm;cases a:x.o.dst with
 |none=>unfold vp at hd;rw[a] at hd;cases hd
 |some d =>
  dsimp only;cases o:(Lq ops x.o).run E with
  |false=>rfl
  |true =>
   dsimp only;unfold N8 at h;rcases g with g|g
   ·rw[g] at h;obtain⟨p,v,j,m,l⟩:=h o;rw[a] at j;cases j;rw[m,l,g];dsimp only;unfold Rp;split
    ·rfl
    ·exact @B5 _ (Classical.propDecidable _) rfl
   ·rw[g] at h;obtain⟨p,v,id,ob,j,m,l,q,r⟩:=h o;rw[a] at j;cases j;rw[m,r H,g];dsimp only;unfold zzb;rw[l];dsimp only;have s:Rp (J7 30 v (Jg id (Jg H.next v))) v (Jg id (Jg H.next v))=true:=by
     unfold Rp;split
     ·rfl
     ·exact @B5 _ (Classical.propDecidable _) (zxh l).symm
    rw[s,q,Heap.get_push_same];dsimp only;unfold Rp;split
    ·rfl
    ·exact @B5 _ (Classical.propDecidable _) rfl
def zex {t:Nat}:∀{l:List Nat},Ph t l=false→t ∉ l
 |[],_=>by simp
 |a::l,h=>by
  simp only[Ph] at h;cases d:Nat.beq t a with
  |true=>rw[d] at h;cases h
  |false =>
   rw[d] at h;intro hm;rcases An.1 hm with rfl|hm
   ·rw[Bj] at d;cases d
   ·exact zex h hm
def Yu {x:DOp}{d:Option Nat}(h:Rv ops d x=true)(v:AV)(E:Tr AV):Kw (N6 ops x.o) (H9 d v E) E∧∀e,x.o.dst=some e→Fk (F7 e) (H9 d v E)=Fk (F7 e) E:=by
 cases d with
 |none=>exact⟨fun t _ _=>rfl,fun e _=>rfl⟩
 |some d =>
  unfold Rv at h;dsimp only at h;cases hm:Ph d (N6 ops x.o) with
  |true=>rw[hm] at h;cases h
  |false =>
   rw[hm] at h;dsimp only at h;refine⟨fun t a _=>?_,fun e he=>?_⟩
   ·show Fk (F7 t) (Hs v (F7 d) E)=_;rw[w9 (fun q=>zex hm (by rw[←q];exact a))]
   ·rw[he] at h;dsimp only at h;show Fk (F7 e) (Hs v (F7 d) E)=_;rw[w9 (fun q=>by rw[q,Bj] at h;cases h)]
def N8.put {x:DOp}{E:Tr AV}{H:Heap}(h:N8 P ops x E H){d:Option Nat}(ho:Rv ops d x=true)(v:AV):N8 P ops x (H9 d v E) H:=by
 obtain⟨h1,h2⟩:=Yu ho v E;have hg:=oy (o:=x.o) h1;have hc:∀H2,(Gw P x.o.op).run (H9 d v E) H2=(Gw P x.o.op).run E H2:=fun H2=>z88 h1
 unfold N8 at h ⊢;cases hx:x.c with
 |rd =>
  rw[hx] at h;intro g;obtain⟨d',w,k1,k2,k3⟩:=h (by rw[←hg];exact g);exact⟨d',w,k1,by rw[h2 d' k1];exact k2,by rw[hc];exact k3⟩
 |al =>
  rw[hx] at h;intro g;obtain⟨d',w,id,ob,k1,k2,k3,k4,k5⟩:=h (by rw[←hg];exact g);exact⟨d',w,id,ob,k1,by rw[h2 d' k1];exact k2,k3,k4,fun H2=>by rw[hc];exact k5 H2⟩
 |quiet=>trivial
 |ch=>trivial
def T1 {x:DOp}{r:RI}(a:gy P n ops x.o=some r)(E:Tr AV):(Lq ops x.o).run E=Vo r.g E∧Li P x.o.op=some r.o∧r.d=x.o.dst:=by
 unfold gy at a;split at a
 ·cases a
 ·split at a
  ·cases a
  ·rename_i ro d;split at a
   ·rename_i g;cases a;refine⟨?_,d,rfl⟩;unfold Lq;rw[g];rfl
   ·rename_i j w g;split at a
    ·cases a
    ·rename_i t h;split at a
     ·rename_i l;cases a;refine⟨?_,d,rfl⟩;unfold Lq;rw[g];dsimp only;rw[h];dsimp only;rw[Ag (As l)];rfl
     ·cases a
def N8.keep {x:DOp}{li:LI}(hr:gy P n ops x.o=some li.r)(af:li.o.ok=true){c c1:Cx}{G G1:Ff}{ρ:Fi}{E:Tr AV}(hs:HSim c G)(hE:Hc c ρ E)(st:Step c G c1 G1)(ad:ckL ρ G G1 (li,Ou x))
  (h:N8 P ops x E c.H):N8 P ops x E c1.H:=by
 have ah:∀{p k:Nat} {a:AV} {o:Nat},nr G G1 p→c.hd[p]?=some (k,a)→Gq a=some o→c1.H.get o=c.H.get o:=by
  intro p k a o hk e1 e2;unfold nr at hk;split at hk
  ·rename_i a1 b1 g1 g2;exact (st.st p a1 b1 k a o g1 g2 e1 e2 hk.1 hk.2).2.1
  ·exact hk.elim
 obtain⟨g1,g2,g3⟩:=T1 hr E;have aj:(Lq ops x.o).run E=true→tl ρ G G1 (li,Ou x):=by
  intro g;rw[g1] at g;unfold ckL at ad;dsimp only at ad;split at ad
  ·exact ad
  ·rename_i t w hg;split at ad
   ·rename_i b hb;refine ad ?_;have ht:=hE t;rw[hb] at ht;rw[show li.r.g=li.g from rfl,hg] at g;unfold Vo at g;dsimp only at g;cases hq:Fk (F7 t) E with
    |none=>rw[hq] at g;cases g
    |some a =>
     rw[hq] at g ht;cases ht;cases b<;>cases w<;>first|rfl|cases g
   ·exact ad
 unfold N8 at h ⊢;cases hx:x.c with
 |quiet=>trivial
 |ch=>trivial
 |rd =>
  rw[hx] at h;intro g;have hc:=aj g;obtain⟨d,v,k1,k2,k3⟩:=h g;refine⟨d,v,k1,k2,?_⟩;rw[zu3 (zr6 E) g2] at k3 ⊢;have aq:Ou x=false:=by unfold Ou;rw[hx]
  unfold tl at hc;rw[aq] at hc;dsimp only at hc;have ap:∀{y:Lx},y.ok=true→∀m,(match y.ev ρ with
    |.ptr p _=>some (some p)
    |.dptr p k _=>(match G[p]? with
     |some (.dyn _ _ _ ag _)=>if k=ag then some (some p) else none
     |_=>none)
    |.cptr _ _=>some none
    |_=>(none:Option (Option Nat)))=some m→(∀p,m=some p→nr G G1 p)→∃o v i,y.r.ev (ρA E)=.ptr o v i∧c1.H.get o=c.H.get o:=by
   intro y hy m hm hk;have hv:=Hr hE hy;generalize y.ev ρ=w at hm hv;generalize y.r.ev (ρA E)=b at hv ⊢;split at hm
   ·rename_i p i;cases hm;cases hv with
    |ptr e=>exact⟨_,_,_,rfl,ah (hk p rfl) e rfl⟩
   ·rename_i p k i;split at hm
    ·rename_i l len esz ag stp hg;by_cases ao:k=ag
     ·rw[Ag ao] at hm;cases hm;cases hv with
      | @dptr _ _ _ k' o v j hh e aw ha =>
       have:=(hs.obj p _ _ _ hg e).1;obtain⟨_,aB,aC,room,rfl⟩:=ha (by omega);exact⟨o,v,j,rfl,ah (hk p rfl) e rfl⟩
     ·rw[Ab ao] at hm;cases hm
    ·cases hm
   ·cases hm;cases hv with
    |cptr hf hr hl=>exact⟨_,_,_,rfl,(st.le.fz _ hf).2⟩
   ·cases hm
  have fin:∀m,j6 ρ G li.o=some m→(∀p,m=some p→nr G G1 p)→Ht P (ρA E) c1.H li.r.o=.val v c1.H:=by
   intro m hm hk;have aa:Ht P (ρA E) c.H li.o.r=.val v c.H:=k3;show Ht P (ρA E) c1.H li.o.r=_;unfold j6 at hm;split at hm
   ·rename_i y ho;rw[ho] at aa af ⊢;obtain⟨o,w,i,q1,q2⟩:=ap af m hm hk;simp only[LOp.r,Ht] at aa ⊢;rw[q1] at aa ⊢;dsimp only at aa ⊢;rw[tg q2];split at aa
    ·cases aa;rfl
    ·cases aa
   ·rename_i nn y ho;rw[ho] at aa af ⊢;obtain⟨o,w,i,q1,q2⟩:=ap af m hm hk;simp only[LOp.r,Ht] at aa ⊢;rw[q1] at aa ⊢;dsimp only at aa ⊢;rw[tg q2];split at aa
    ·cases aa;rfl
    ·cases aa
   ·rename_i y ho;rw[ho] at aa af ⊢;have hv:=Hr hE af;simp only[LOp.r,Ht] at aa ⊢;generalize y.ev ρ=w at hm hv;generalize y.r.ev (ρA E)=b at hv aa ⊢;have done:(∀o v i len esz room,b=.sl o v i len esz room→c1.H.get o=c.H.get o)→(match b with
      |.nilSl=>OR.val (.str 0 0) c1.H
      |.sl o v i len 1 _=>match Jx c1.H o v i len with
       |some l=>match P8.bytesA l with
        |some n=>.val (.str len n) c1.H
        |none=>.no
       |none=>.no
      |_=>.no)=.val v c1.H:=by
     intro hh;split at aa
     ·cases aa;rfl
     ·rename_i o v2 i len room;have e:=hh o v2 i len 1 room rfl;show (match Jx c1.H o v2 i len with
       |some l=>match P8.bytesA l with
        |some n=>OR.val (.str len n) c1.H
        |none=>.no
       |none=>.no)=.val v c1.H
      rw[tg e];split at aa
      ·rename_i ay;split at aa
       ·rename_i hb;cases aa;rw[ay];dsimp only;rw[hb]
       ·cases aa
      ·cases aa
     ·cases aa
    split at hm
    ·cases hv;exact done (fun _ _ _ _ _ _ e=>by cases e)
    ·cases hm;cases hv with
     |lst hf aD hlen hr hl=>exact done (fun _ _ _ _ _ _ e=>by cases e;exact (st.le.fz _ hf).2)
     |lstNil=>exact done (fun _ _ _ _ _ _ e=>by cases e)
     |lstEmp=>exact done (fun _ _ _ _ _ _ e=>by cases e)
    ·rename_i p k;split at hm
     ·rename_i l len esz ag stp hg;by_cases ao:k=ag
      ·rw[Ag ao] at hm;cases hm;cases hv with
       | @dy _ _ k' hh _ e aw ha az =>
        have:=(hs.obj p _ _ _ hg e).1;have ar:=ha (by omega);exact done (fun o v i len esz room eb=>ah (hk p rfl) e (by rw[←ar,eb];rfl))
      ·rw[Ab ao] at hm;cases hm
     ·cases hm
    ·cases hm
   ·cases hm
  split at hc
  ·rename_i hm;exact fin none hm (fun p e=>by cases e)
  ·rename_i p hm;exact fin (some p) hm (fun p' e=>by cases e;exact hc)
  ·exact hc.elim
 |al =>
  rw[hx] at h;intro g;have hc:=aj g;obtain⟨d,v,id,ob,k1,k2,k3,k4,k5⟩:=h g;refine⟨d,v,id,ob,k1,k2,k3,?_,k5⟩;have aq:Ou x=true:=by unfold Ou;rw[hx]
  unfold tl at hc;rw[aq] at hc;dsimp only at hc;have hd:li.d=some d:=by rw[←k1];exact g3
  rw[hd] at hc;dsimp only at hc;have hv:=hE d;rw[k2] at hv;split at hc
  ·rename_i p i hl;rw[hl] at hv;cases hv with
   |ptr e=>cases k3;rw[ah hc e rfl];exact k4
  ·rename_i p k hl;rw[hl] at hv;obtain⟨ax,aA⟩:=hc;split at ax
   ·rename_i l len esz ag stp hg;cases hv with
    | @dy _ _ k' hh _ e aw ha az =>
     have:=(hs.obj p _ _ _ hg e).1;have ar:v=hh:=ha (by omega);rw[ah aA e (by rw[←ar];exact k3)];exact k4
   ·exact ax.elim
  ·exact hc.elim
def cks_mem:∀{pend:List DOp} {cs:List (LI×Bool)},zl P n ops pend=some (rck cs)→∀{ρ:Fi} {G G':Ff},Pg ρ G G' cs→∀x∈pend,∃d,gy P n ops x.o=some d.r∧(d,Ou x)∈cs∧ckL ρ G G' (d,Ou x)
 |[],_,_,_,_,_,_,x,a=>by simp at a
 |y::pend,[],h,_,_,_,_,x,a=>by
  simp only[zl] at h;split at h
  ·cases h
  ·split at h<;>cases h
 |y::pend,(d,b)::cs,h,ρ,G,G',k,x,a=>by
  simp only[zl] at h;split at h
  ·cases h
  ·rename_i r l;split at h
   ·cases h
   ·rename_i rs g;simp only[rck,Option.some.injEq,List.cons.injEq,Prod.mk.injEq] at h;obtain⟨⟨rfl,rfl⟩,m⟩:=h;rw[m] at g;rcases An.1 a with rfl|a
    ·exact⟨d,l,by simp,k.1⟩
    ·obtain⟨j,o,p,q⟩:=cks_mem g k.2 x a;exact⟨j,o,by simp[p],q⟩
def zds {α:Type}{f:α→Bool}:∀{l:List α} {x:α},x∈Gr f l→x∈l
 |[],_,h=>h
 |a::l,x,h=>by
  simp only[Gr] at h;split at h
  ·rcases An.1 h with rfl|h
   ·simp
   ·exact A0 _ (zds h)
  ·exact A0 _ (zds h)
def zhd {α:Type}{f:α→Bool}:∀{l:List α},Pe f l=true→∀x∈l,f x=true
 |[],_,x,d=>by simp at d
 |a::l,h,x,d=>by
  simp only[Pe] at h;split at h
  ·rename_i g;rcases An.1 d with rfl|d
   ·exact g
   ·exact zhd h x d
  ·cases h
def zdz {E:Tr AV}{H:Heap}:∀{l:List DOp},(∀x∈l,(Vm P ops x).run E H=true)→(gw P ops l).run E H=true
 |[],_=>rfl
 |x::l,h=>by
  simp only[gw];rw[h x (by simp)];exact zdz (fun y a=>h y (by simp[a]))
structure Pend (P:Program) (n:Nat) (ops:Array Oper) (x:DOp):Prop where
 cls:x.c=.rd∨x.c=.al
 own:vp ops x=true
def drawGo_ok:∀{l pend:List DOp} {items:List (LI×List (LI×Bool))} {c:Cx} {G:Ff} {ρ:Fi} {E:Tr AV} {K:Fi→Ff→Prop},qf P n ops l pend=some (oj items)→(items.all fun x=>x.1.o.ok&&x.2.all (·.1.o.ok))=true →
  HSim c G→Hc c ρ E→(∀x∈pend,Pend P n ops x∧N8 P ops x E c.H)→Vq P items ρ G K →
  ∃m N c' J G',(Ob P n ops l pend).run (K8 P (OL P) m) E c.H=.ok N c'.H∧HSim c' G'∧Step c G c' G'∧Hc c' J N∧K J G'
 |[],pend,items,c,G,ρ,E,K,h,_,hs,hE,_,k=>by
  cases items with
  |nil=>exact⟨0,E,c,ρ,G,rfl,hs,.refl c G,hE,k⟩
  |cons _ _=>cases h
 |x::l,pend,items,c,G,ρ,E,K,h,C,hs,hE,hp,k=>by
  simp only[qf] at h;split at h
  ·cases h
  ·rename_i af;rw[Ac] at af;obtain⟨X,z⟩:=af;split at h
   ·cases h
   ·rename_i r hr;have head:∀{li:LI} {cs:List (LI×Bool)} {B:List (LI×List (LI×Bool))},r=li.r→items=(li,cs)::B →
      ∃m E1 F W O v,(Js P n ops x.o).run (K8 P (OL P) m) E c.H=.ok E1 F.H∧E1=H9 x.o.dst v E∧HSim F O∧Step c G F O∧Hc F W E1∧Pg ρ G O cs∧Vq P B W O K:=by
     intro li cs B e1 e2;subst e2;simp only[Cv,Ac] at C;obtain⟨m,E1,F,W,O,R,S,q3,Y,q5,q6⟩:=Xd hs hE C.1.1 (show Ud P li ρ G (fun J G'=>Pg ρ G G' cs∧Vq P B J G' K) from k);rw[←e1,←zgo hr] at R;obtain⟨v,w1,_⟩:=z61 R;exact⟨m,E1,F,W,O,v,R,w1,S,q3,Y,q5,q6⟩
    have Z:∀{v:AV},∀y∈pend,N8 P ops y E c.H→N8 P ops y (H9 x.o.dst v E) c.H:=fun y s hv=>hv.put (zhd X y s) _
    have go:∀{pend':List DOp} {B:List (LI×List (LI×Bool))} {m:Nat} {E1:Tr AV} {F:Cx} {W:Fi} {O:Ff},qf P n ops l pend'=some (oj B)→(B.all fun x=>x.1.o.ok&&x.2.all (·.1.o.ok))=true→HSim F O→Step c G F O→Hc F W E1 →
      (∀y∈pend',Pend P n ops y∧N8 P ops y E1 F.H)→Vq P B W O K→(Js P n ops x.o).run (K8 P (OL P) m) E c.H=.ok E1 F.H →
      ∃m' N c' J G',(Js P n ops x.o).run (K8 P (OL P) m') E c.H=.ok E1 F.H∧(Ob P n ops l pend').run (K8 P (OL P) m') E1 F.H=.ok N c'.H∧HSim c' G'∧Step c G c' G'∧Hc c' J N∧K J G':=by
     intro pend' B m E1 F W O a1 a2 a3 a4 a5 a6 a7 a8;obtain⟨m2,N,c',J,G',b1,b2,b3,b4,b5⟩:=drawGo_ok a1 a2 a3 a5 a6 a7;exact⟨max m m2,N,c',J,G',z3x (Z0 (C3 m m2)) a8,z5j (Z0 (Dq m m2)) b1,b2,.trans hs a3 a4 b3,b4,b5⟩
    cases M:x.c with
    |quiet =>
     rw[M] at h;dsimp only at h;split at h
     ·cases h
     ·rename_i rs T;cases items with
      |nil=>cases h
      |cons it B =>
       obtain⟨li,cs⟩:=it;simp only[oj,Option.some.injEq,List.cons.injEq,Prod.mk.injEq] at h;obtain⟨⟨h1,h2⟩,h3⟩:=h;obtain⟨m,E1,F,W,O,v,R,S,q3,Y,q5,q6,q7⟩:=head h1 rfl;simp only[Cv,Ac] at C;have hH:F.H=c.H:=by
        have hc:cls P x.o.op=.quiet:=by
         rw[M] at z;cases A:cls P x.o.op<;>rw[A] at z<;>first|rfl|cases z
        exact z5y (zcf.1 hc).reads R
       obtain⟨m',N,c',J,G',b1,b2,b3,b4,b5,b6⟩:=go (pend':=pend) (by rw[←h3];exact T) C.2 q3 Y q5 (fun y s=>⟨(hp y s).1,by rw[hH,S];exact Z y s (hp y s).2⟩) q7 R;refine⟨m',N,c',J,G',?_,b3,b4,b5,b6⟩;simp only[Ob];rw[M];dsimp only;rw[b1];exact b2
    |rd =>
     rw[M] at h;dsimp only at h;split at h
     ·cases h
     ·rename_i j;split at h
      ·cases h
      ·rename_i rs T;cases items with
       |nil=>cases h
       |cons it B =>
        obtain⟨li,cs⟩:=it;simp only[oj,Option.some.injEq,List.cons.injEq,Prod.mk.injEq] at h;obtain⟨⟨h1,h2⟩,h3⟩:=h;obtain⟨m,E1,F,W,O,v,R,S,q3,Y,q5,q6,q7⟩:=head h1 rfl;simp only[Cv,Ac] at C;have hc:cls P x.o.op=.rd:=by
         rw[M] at z;cases A:cls P x.o.op<;>rw[A] at z<;>first|rfl|cases z
        have hH:F.H=c.H:=z5y (zcf.2 hc) R;have I:N8 P ops x E1 F.H:=by
         unfold N8;rw[M];intro g;unfold vp at j;cases p:x.o.dst with
         |none=>rw[p] at j;cases j
         |some d =>
          rw[p] at j;have hm:Ph d (N6 ops x.o)=false:=by simpa using j
          have H:Kw (N6 ops x.o) E1 E:=fun t ht _=>by
           rw[S,p];show Fk (F7 t) (Hs v (F7 d) E)=_;rw[w9 (fun q=>zex hm (by rw[←q];exact ht))]
          rw[oy H] at g;refine⟨d,v,rfl,by rw[S,p];exact bj _ _ _,?_⟩;rw[z88 H,hH];have A:=R;unfold Js at A;cases U:Jv n x.o.dst with
          |none=>rw[U] at A;cases A
          |some pf =>
           rw[U] at A;dsimp only at A;rw[g] at A;dsimp only at A;have ad:=(zcf.2 hc) E c.H;cases L:(Gw P x.o.op).run E c.H with
           |no=>rw[L] at A;cases A
           |call t a=>rw[L] at ad;cases ad
           |val w H2 =>
            rw[L] at A ad;cases ad;injection A with e1 e2
            have:=congrArg (fun E=>Fk (F7 d) E) e1;rw[S,(zbh U).1,p,bj,bj] at this;cases this;rfl
        obtain⟨m',N,c',J,G',b1,b2,b3,b4,b5,b6⟩:=go (pend':=x::pend) (by rw[←h3];exact T) C.2 q3 Y q5 (fun y s=>by
         rcases An.1 s with rfl|s
         ·exact⟨⟨.inl M,j⟩,I⟩
         ·exact⟨(hp y s).1,by rw[hH,S];exact Z y s (hp y s).2⟩) q7 R
        refine⟨m',N,c',J,G',?_,b3,b4,b5,b6⟩;simp only[Ob];rw[M];dsimp only;rw[b1];exact b2
    |al =>
     rw[M] at h;dsimp only at h;split at h
     ·cases h
     ·rename_i j;split at h
      ·cases h
      ·rename_i aj aa;split at h
       ·cases h
       ·rename_i rs T;cases items with
        |nil=>cases h
        |cons it B =>
         obtain⟨li,cs⟩:=it;simp only[oj,Option.some.injEq,List.cons.injEq,Prod.mk.injEq] at h;obtain⟨⟨h1,h2⟩,h3⟩:=h;obtain⟨m,E1,F,W,O,v,R,S,q3,Y,q5,q6,q7⟩:=head h1 rfl;simp only[Cv,Ac] at C;have hc:cls P x.o.op=.al:=by
          rw[M] at z;cases A:cls P x.o.op<;>rw[A] at z<;>first|rfl|cases z
         rw[h2] at aa;have hold:∀y∈pend,Pend P n ops y∧N8 P ops y E1 F.H:=fun y s=>by
          obtain⟨ag,w1,w2,w3⟩:=cks_mem aa q6 y s;have V:ag.o.ok=true:=Cd.1 C.1.2 _ w2;refine⟨(hp y s).1,?_⟩;rw[S];exact ((hp y s).2.keep w1 V hs hE Y w3).put (zhd X y s) _
         have I:N8 P ops x E1 F.H:=by
          unfold N8;rw[M];intro g;unfold vp at j;cases p:x.o.dst with
          |none=>rw[p] at j;cases j
          |some d =>
           rw[p] at j;have hm:Ph d (N6 ops x.o)=false:=by simpa using j
           have H:Kw (N6 ops x.o) E1 E:=fun t ht _=>by
            rw[S,p];show Fk (F7 t) (Hs v (F7 d) E)=_;rw[w9 (fun q=>zex hm (by rw[←q];exact ht))]
           rw[oy H] at g;have A:=R;unfold Js at A;cases U:Jv n x.o.dst with
           |none=>rw[U] at A;cases A
           |some pf =>
            rw[U] at A;dsimp only at A;rw[g] at A;dsimp only at A;cases L:(Gw P x.o.op).run E c.H with
            |no=>rw[L] at A;cases A
            |call t a =>
             exfalso;have:=zui (o:=x.o) hc E c.H;rw[L] at this;exact this
            |val w H2 =>
             rw[L] at A;injection A with e1 e2
             have:=congrArg (fun E=>Fk (F7 d) E) e1;rw[S,(zbh U).1,p,bj,bj] at this;cases this;obtain⟨ob,u1,u2,u3⟩:=xz hc L;refine⟨d,_,c.H.next,ob,rfl,by rw[S,p];exact bj _ _ _,u2,?_,fun H3=>by rw[z88 H];exact u3 H3⟩;rw[←e2,u1];exact Heap.get_push_same _ _
         obtain⟨m',N,c',J,G',b1,b2,b3,b4,b5,b6⟩:=go (pend':=x::pend) (by rw[←h3];exact T) C.2 q3 Y q5 (fun y s=>by
          rcases An.1 s with rfl|s
          ·exact⟨⟨.inr M,j⟩,I⟩
          ·exact hold y s) q7 R
         refine⟨m',N,c',J,G',?_,b3,b4,b5,b6⟩;simp only[Ob];rw[M];dsimp only;rw[b1];dsimp only;rw[zdz (fun y s=>by
          rcases An.1 s with rfl|s
          ·exact za1 I (.inr M) j
          ·exact za1 (hold y s).2 (hold y s).1.cls (hold y s).1.own)]
         exact b2
    |ch =>
     rw[M] at h;dsimp only at h;split at h
     ·cases h
     ·rename_i aj aa;split at h
      ·cases h
      ·rename_i rs T;cases items with
       |nil=>cases h
       |cons it B =>
        obtain⟨li,cs⟩:=it;simp only[oj,Option.some.injEq,List.cons.injEq,Prod.mk.injEq] at h;obtain⟨⟨h1,h2⟩,h3⟩:=h;obtain⟨m,E1,F,W,O,v,R,S,q3,Y,q5,q6,q7⟩:=head h1 rfl;simp only[Cv,Ac] at C;rw[h2] at aa;have hold:∀y∈Gr (fun y=>!(Nat.testBit x.m y.i)) pend,Pend P n ops y∧N8 P ops y E1 F.H:=fun y s=>by
         have ah:=zds s;obtain⟨ag,w1,w2,w3⟩:=cks_mem aa q6 y s;have V:ag.o.ok=true:=Cd.1 C.1.2 _ w2;refine⟨(hp y ah).1,?_⟩;rw[S];exact ((hp y ah).2.keep w1 V hs hE Y w3).put (zhd X y ah) _
        obtain⟨m',N,c',J,G',b1,b2,b3,b4,b5,b6⟩:=go (pend':=Gr (fun y=>!(Nat.testBit x.m y.i)) pend) (by rw[←h3];exact T) C.2 q3 Y q5 hold q7 R;refine⟨m',N,c',J,G',?_,b3,b4,b5,b6⟩;simp only[Ob];rw[M];dsimp only;rw[b1];dsimp only;rw[zdz (fun y s=>za1 (hold y s).2 (hold y s).1.cls (hold y s).1.own)];exact b2
end draw
section rule
variable {P : Program} {f n : Nat} {ro : Option Nat} {ρ : Fi} {D : List Nat} {G : Ff} {Q : Ja}
def rz {l:List (LI×List (LI×Bool))}(h:Vq P l ρ G fun d G'=>Q .normal d D G'):W P f n (.draw l) ro ρ D G Q:=by
 intro code c E j o p q r s w H;obtain⟨id,ops,rfl,a⟩:=Ws p;unfold zsi at a;dsimp only at a;split at a
 ·rename_i hd;obtain⟨m,y,c',d,G',z,A,g,B,C⟩:=drawGo_ok a q r s (fun x F=>by simp at F) h;refine⟨m,.normal,y,j,c',d,D,G',?_,A,g,B,w.mono g.le,C⟩;simp only[I0,ue];rw[hd];dsimp only;rw[z]
 ·cases a
end rule
end Go.Sv
end
namespace Go.Sv
mutual
def LV.dat:LV→Bool
 |.any=>true
 |.bool _ |.u _ |.b _ |.i _ |.int _ _ |.str _ |.nilPtr |.nilSl |.nilMap |.nilFn |.nilIf=>true
 |.cptr l _=>dats l
 |.lst l _ _=>dats l
 |.fn (.func _) l r=>dats l&&dats r
 |.iface _ v=>v.dat
 |.agg l=>dats l
 |.tup l=>dats l
 |_=>false
def dats:List LV→Bool
 |[]=>true
 |v::l=>v.dat&&dats l
end
mutual
def AR.dat {c c':Cx}(hfz:∀o,c.Fz o→c'.Fz o∧c'.H.get o=c.H.get o)(v:LV)(a:AV)(hd:v.dat=true)(h:AR c v a):AR c' v a:=by
 cases v with
 |cptr l i =>
  simp only[LV.dat] at hd;cases h with
  |cptr hf hr hl=>exact .cptr (hfz _ hf).1 (by rw[tg (hfz _ hf).2];exact hr) (ARs.dat hfz l _ hd hl)
 |lst l len esz =>
  simp only[LV.dat] at hd;cases h with
  |lst hf hrm hlen hr hl=>exact .lst (hfz _ hf).1 hrm hlen (by rw[tg (hfz _ hf).2];exact hr) (ARs.dat hfz l _ hd hl)
  |lstNil=>exact .lstNil
  |lstEmp=>exact .lstEmp
 |fn f l r =>
  cases f with
  |func f =>
   simp only[LV.dat,Ac] at hd;cases h with
   |fn hl hr=>exact .fn (ARs.dat hfz l _ hd.1 hl) (ARs.dat hfz r _ hd.2 hr)
  |_=>simp[LV.dat] at hd
 |iface t w =>
  simp only[LV.dat] at hd;cases h with
  |iface h=>exact .iface (AR.dat hfz w _ hd h)
 |agg l =>
  simp only[LV.dat] at hd;cases h with
  |agg h=>exact .agg (ARs.dat hfz l _ hd h)
 |tup l =>
  simp only[LV.dat] at hd;cases h with
  |tup h=>exact .tup (ARs.dat hfz l _ hd h)
 |any=>exact .any a
 |_=>first|(simp only[LV.dat] at hd;cases hd;done)|(cases h;constructor)
termination_by SizeOf.sizeOf v
def ARs.dat {c c':Cx}(hfz:∀o,c.Fz o→c'.Fz o∧c'.H.get o=c.H.get o)(l:List LV)(r:List AV)(hd:dats l=true)(h:ARs c l r):ARs c' l r:=by
 cases l with
 |nil=>cases h;exact .nil
 |cons v l =>
  simp only[dats,Ac] at hd;cases h with
  |cons e es=>exact .cons (AR.dat hfz v _ hd.1 e) (ARs.dat hfz l _ hd.2 es)
termination_by SizeOf.sizeOf l
end
def dats_app:∀{l r:List LV},dats l=true→dats r=true→dats (l++r)=true
 |[],_,_,h=>h
 |v::l,r,h,k=>by
  simp only[dats,Ac] at h;simp only[Bi,dats,Ac];exact⟨h.1,dats_app h.2 k⟩
def dats_take:∀{l:List LV} (n:Nat),dats l=true→dats (l.take n)=true
 |_,0,_=>by simp[dats]
 |[],n+1,_=>by simp[dats]
 |v::l,n+1,h=>by
  simp only[dats,Ac] at h;simp only[List.take_succ_cons,dats,Ac];exact⟨h.1,dats_take n h.2⟩
def dats_drop:∀{l:List LV} (n:Nat),dats l=true→dats (l.drop n)=true
 |_,0,h=>h
 |[],n+1,_=>by simp[dats]
 |v::l,n+1,h=>by
  simp only[dats,Ac] at h;simp only[List.drop_succ_cons];exact dats_drop n h.2
def zcl {α:Type}{f:α→LV}(h:∀a,(f a).dat=true):∀l:List α,dats (l.map f)=true
 |[]=>rfl
 |a::l=>by simp only[C8,dats,Ac];exact⟨h a,zcl h l⟩
mutual
def bor (G:Ff):LV→LV→Prop
 |.dy p k,d=>∃l len esz st,d=.lst l len esz∧G[p]?=some (.dyn l len esz k st)∧dats l=true
 |.vw p k lo len,d=>∃l len0 esz st,d=.lst ((l.drop (lo*esz)).take (len*esz)) len esz∧G[p]?=some (.dyn l len0 esz k st)∧lo*esz+len*esz≤l.length∧dats l=true
 |.nilSl,d=>d=.nilSl∨∃esz,d=.lst [] 0 esz
 |.agg l,d=>∃r,d=.agg r∧bors G l r
 |v,d=>d=v∧v.dat=true
def bors (G:Ff):List LV→List LV→Prop
 |[],r=>r=[]
 |v::l,r=>∃d r',r=d::r'∧bor G v d∧bors G l r'
end
section calls
variable {P : Program} {c : Cx} {G : Ff}
def ej {v d:LV}{a:AV}(f:d=v∧v.dat=true)(h:AR c v a):AR ⟨[],fun o=>c.Fz o∨Ij c G o,c.H⟩ d a:=by
 obtain⟨rfl,hd⟩:=f;exact AR.dat (c':=⟨[],fun o=>c.Fz o∨Ij c G o,c.H⟩) (fun o ho=>⟨Or.inl ho,rfl⟩) d a hd h
mutual
def bor_ok (hs:HSim c G)(v d:LV)(a:AV)(hb:bor G v d)(h:AR c v a):AR ⟨[],fun o=>c.Fz o∨Ij c G o,c.H⟩ d a:=by
 cases v with
 |dy p k =>
  simp only[bor] at hb;obtain⟨l,len,esz,st,rfl,hg,hd⟩:=hb;cases h with
  | @dy _ _ k' hh _ e hk ha _ =>
   have hob:=hs.obj p _ _ _ hg e;obtain⟨r0,r1,r2⟩:=hob;have hha:=ha (by omega);rcases r2 with ⟨r2,r3⟩|⟨o,v,room,t,clen,l',r2,r3,r4,r5,r6,r7,r8⟩
   ·subst r3;have:l=[]:=Ay (by simpa using r1);subst this;rw[hha,r2];exact .lstNil
   ·have hl':l'.length=len*esz:=by rw[←r6.length];exact r1
    have hr:=Qn (i:=0) (n:=len*esz) r3 r5 r4 (by omega);rw[Db,Aw (by omega)] at hr;rw[hha,r2];exact .lst (.inr ⟨p,_,_,_,hg,rfl,e,by rw[r2];rfl⟩) (fun r e=>(r7 r e).2) r1 hr (ARs.dat (c':=⟨[],fun o=>c.Fz o∨Ij c G o,c.H⟩) (fun o ho=>⟨Or.inl ho,rfl⟩) l l' hd r6)
 |vw p k lo len =>
  simp only[bor] at hb;obtain⟨l,len0,esz,st,rfl,hg,hle,hd⟩:=hb;cases h with
  | @vw _ _ _ _ k' hh _ e hk ha _ _ =>
   have hkv:=(hs.obj p _ _ _ hg e).1;rcases ha (by omega) with ⟨r3,r4⟩|⟨o,v,len',esz',room,room',r3,r4,r9⟩
   ·subst r3;simp only[Dg,E3];rcases r4 with rfl|⟨rfl,_⟩
    ·exact .lstNil
    ·exact .lstEmp
   ·have e2:=e;rw[r3] at e2;obtain⟨_,q1,q2,q3,t,clen,l',q4,q5,q6,q7,_⟩:=Yw hs hg e2;subst q2 q3;have hr:=Qn (i:=lo*esz') (n:=len*esz') q4 q6 q5 (by omega);rw[r4];refine .lst (.inr ⟨p,_,_,_,hg,rfl,e,by rw[r3];rfl⟩) r9 (by simp;omega) hr ?_;exact ((ARs.dat (c':=⟨[],fun o=>c.Fz o∨Ij c G o,c.H⟩) (fun o ho=>⟨Or.inl ho,rfl⟩) l l' hd q7).drop _).take _
 |nilSl =>
  simp only[bor] at hb;cases h;rcases hb with rfl|⟨esz,rfl⟩
  ·exact .nilSl
  ·exact .lstNil
 |agg l =>
  simp only[bor] at hb;obtain⟨r,rfl,hb⟩:=hb;cases h with
  |agg h=>exact .agg (bors_ok hs l r _ hb h)
 |_=>exact ej (by simpa only[bor] using hb) h
termination_by SizeOf.sizeOf v
def bors_ok (hs:HSim c G)(l r:List LV)(as:List AV)(hb:bors G l r)(h:ARs c l as):ARs ⟨[],fun o=>c.Fz o∨Ij c G o,c.H⟩ r as:=by
 cases l with
 |nil=>simp only[bors] at hb;subst hb;cases h;exact .nil
 |cons v l =>
  simp only[bors] at hb;obtain⟨d,r',rfl,hb1,hb2⟩:=hb;cases h with
  |cons e es=>exact .cons (bor_ok hs v d _ hb1 e) (bors_ok hs l r' _ hb2 es)
termination_by SizeOf.sizeOf l
end
mutual
def shV (n:Nat):LV→LV
 |.dy j k=>.dy (n+j) k
 |.agg l=>.agg (shVs n l)
 |.tup l=>.tup (shVs n l)
 |v=>v
def shVs (n:Nat):List LV→List LV
 |[]=>[]
 |v::l=>shV n v::shVs n l
end
mutual
def frV (G0:Ff):LV→LV
 |.dy j _=>match G0[j]? with
  |some (.dyn l len esz _ _)=>.lst l len esz
  |_=>.any
 |.agg l=>.agg (frVs G0 l)
 |.tup l=>.tup (frVs G0 l)
 |v=>v
def frVs (G0:Ff):List LV→List LV
 |[]=>[]
 |v::l=>frV G0 v::frVs G0 l
end
mutual
def sh_AR {c0 c':Cx}{n m:Nat}(h:∀j a,j<m→AR c0 (.dy j 0) a→AR c' (.dy (n+j) 0) a)(v:LV)(a:AV)(hs:v.sim m=true)(ha:AR c0 v a):AR c' (shV n v) a:=by
 cases v with
 |dy j k =>
  simp only[LV.sim,Ac,Dz,Ao] at hs;obtain⟨rfl,hj⟩:=hs;exact h j a hj ha
 |agg l =>
  simp only[LV.sim] at hs;cases ha with
  |agg ha=>simp only[shV];exact .agg (sh_ARs h l _ hs ha)
 |tup l =>
  simp only[LV.sim] at hs;cases ha with
  |tup ha=>simp only[shV];exact .tup (sh_ARs h l _ hs ha)
 |_=>first|(simp only[LV.sim] at hs;cases hs;done)|(simp only[shV];cases ha;constructor)
termination_by SizeOf.sizeOf v
def sh_ARs {c0 c':Cx}{n m:Nat}(h:∀j a,j<m→AR c0 (.dy j 0) a→AR c' (.dy (n+j) 0) a)(l:List LV)(r:List AV)(hs:sims m l=true)(ha:ARs c0 l r):ARs c' (shVs n l) r:=by
 cases l with
 |nil=>cases ha;simp only[shVs];exact .nil
 |cons v l =>
  simp only[sims,Ac] at hs;cases ha with
  |cons e es=>simp only[shVs];exact .cons (sh_AR h v _ hs.1 e) (sh_ARs h l _ hs.2 es)
termination_by SizeOf.sizeOf l
end
mutual
def fr_AR {c0 c':Cx}{G0:Ff}(h:∀j a,j<G0.length→AR c0 (.dy j 0) a→AR c' (frV G0 (.dy j 0)) a)(v:LV)(a:AV)(hs:v.sim G0.length=true)(ha:AR c0 v a):AR c' (frV G0 v) a:=by
 cases v with
 |dy j k =>
  simp only[LV.sim,Ac,Dz,Ao] at hs;obtain⟨rfl,hj⟩:=hs;exact h j a hj ha
 |agg l =>
  simp only[LV.sim] at hs;cases ha with
  |agg ha=>simp only[frV];exact .agg (fr_ARs h l _ hs ha)
 |tup l =>
  simp only[LV.sim] at hs;cases ha with
  |tup ha=>simp only[frV];exact .tup (fr_ARs h l _ hs ha)
 |_=>first|(simp only[LV.sim] at hs;cases hs;done)|(simp only[frV];cases ha;constructor)
termination_by SizeOf.sizeOf v
def fr_ARs {c0 c':Cx}{G0:Ff}(h:∀j a,j<G0.length→AR c0 (.dy j 0) a→AR c' (frV G0 (.dy j 0)) a)(l:List LV)(r:List AV)(hs:sims G0.length l=true)(ha:ARs c0 l r):ARs c' (frVs G0 l) r:=by
 cases l with
 |nil=>cases ha;simp only[frVs];exact .nil
 |cons v l =>
  simp only[sims,Ac] at hs;cases ha with
  |cons e es=>simp only[frVs];exact .cons (fr_AR h v _ hs.1 e) (fr_ARs h l _ hs.2 es)
termination_by SizeOf.sizeOf l
end
def Fj {f:Nat}{args d:List LV}{M:LV}{A:Ff}{K:LV→Ff→Prop}(hc:Hf P f d M A)(hb:bors G args d)(k:K (frV A M) G):Ju P (.fn f) args G K:=by
 obtain⟨ht,D,hG,E⟩:=hc;refine⟨ht,fun c t1 y w F Q=>?_⟩;cases t1 with
 |yield o=>exact F.elim
 |fn g =>
  obtain rfl:f=g:=F;obtain⟨m,v1,B,H',q1,Y,q3,R,N,Z⟩:=E (fun o=>c.Fz o∨Ij c G o) c.H y (fun o ho=>ho.elim (w.fz o) (w.lt o)) (bors_ok w args d y hb Q);have hle:CxLe c ⟨c.hd,fun o=>c.Fz o∨Ij ⟨B,fun o=>c.Fz o∨Ij c G o,H'⟩ A o,H'⟩:=⟨fun p k h e=>⟨k,h,e,Al _,fun _=>rfl,fun _=>rfl⟩,fun o ho=>⟨.inl ho,N o (w.fz o ho)⟩⟩;have s:∀o,Ij ⟨c.hd,fun o=>c.Fz o∨Ij ⟨B,fun o=>c.Fz o∨Ij c G o,H'⟩ A o,H'⟩ G o→Ij c G o:=fun o ⟨p,ob,k,h,z,x,H,I⟩=>⟨p,ob,k,h,z,x,H,I⟩
  refine⟨m,v1,H',q1,⟨c.hd,fun o=>c.Fz o∨Ij ⟨B,fun o=>c.Fz o∨Ij c G o,H'⟩ A o,H'⟩,frV A M,G,rfl,?_,?_,?_,k⟩
  ·refine⟨w.len,fun o ho=>?_,fun o ho=>Bh (w.lt o (s o ho)) R,fun o ho J=>?_,fun p ob k h z x=>?_,fun p q ob ob' k h k' h' o z x H I S e6 e7 e8=>w.excl p q ob ob' k h k' h' o z x H I S e6 e7 e8⟩
   ·rcases ho with ho|ho
    ·exact Bh (w.fz o ho) R
    ·exact Y.lt o ho
   ·rcases J with J|J
    ·exact w.sep o (s o ho) J
    ·have:=Z o J;have:=w.lt o (s o ho);omega
   ·by_cases O:ob.live=true
    ·exact (w.obj p ob k h z x).mono hle (fun o ho=>N o (w.lt o ⟨p,ob,k,h,z,O,x,ho⟩))
    ·cases ob<;>first|exact absurd rfl O|trivial
  ·refine⟨hle,R,fun o ho _=>N o ho,fun o ho=>.inl (s o ho),fun o ho=>ho.elim .inl (fun h=>.inr (.inr (Z o h))),fun p ob ob' z x=>?_,fun p ob ob' k h o z x H I S e6=>?_⟩
   ·rw[z] at x;cases x;exact Al _
   ·rw[z] at x;cases x;have O:ob.live=true:=by cases ob<;>first|rfl|cases S
    exact⟨rfl,N o (w.lt o ⟨p,ob,k,h,z,O,H,I⟩),rfl⟩
  ·refine fr_AR (fun j a hj h=>?_) M v1 D q3;obtain⟨l,len,esz,T,U⟩:=hG j _ (Ai hj);have V:A[j]?=some (.dyn l len esz 0 0):=by rw[Ai hj,T]
   simp only[frV];rw[V];dsimp only;cases h with
   | @dy _ _ k' hh _ e hk Q _ =>
    obtain⟨r0,W,C⟩:=Y.obj j _ _ _ V e;have L:=Q (by omega);rcases C with ⟨C,X⟩|⟨o,v,room,t,aa,l',C,X,r4,r5,r6,r7,r8⟩
    ·subst X;have:l=[]:=Ay (by simpa using W);subst this;rw[L,C];exact .lstNil
    ·have ad:l'.length=len*esz:=by rw[←r6.length];exact W
     have hr:=Qn (i:=0) (n:=len*esz) X r5 r4 (by omega);rw[Db,Aw (by omega)] at hr;rw[L,C];exact .lst (.inr ⟨j,_,_,_,V,rfl,e,by rw[C];rfl⟩) (fun r e=>(r7 r e).2) W hr (zf3 U r6)
def zrq {f:Nat}{args x:List LV}{S:LV}{F:Ff}{K:LV→Ff→Prop}(hc:Hf P f x S F)(hb:bors G args x)(k:K (shV G.length S) (G++F)):Ju P (.fn f) args G K:=by
 obtain⟨ht,J,hG,L⟩:=hc;refine⟨ht,fun c t1 C d M Y=>?_⟩;cases t1 with
 |yield o=>exact M.elim
 |fn g =>
  obtain rfl:f=g:=M;obtain⟨m,v1,r,H',Z,I,q3,q4,T,q6⟩:=L (fun o=>c.Fz o∨Ij c G o) c.H C (fun o ho=>ho.elim (d.fz o) (d.lt o)) (bors_ok d args x C hb Y);have N:∀(p k:Nat) (h:AV),c.hd[p]?=some (k,h)→(c.hd++r)[p]?=some (k,h):=fun p k h e=>by
   rw[Aq (Aa.1 e).1];exact e
  have hle:CxLe c ⟨c.hd++r,c.Fz,H'⟩:=⟨fun p k h e=>⟨k,h,N p k h e,Al _,fun _=>rfl,fun _=>rfl⟩,fun o ho=>⟨ho,T o (d.fz o ho)⟩⟩;have H:r.length=F.length:=I.len;have hinv:∀(p:Nat) (k:Nat) (h:AV) (ob':LObj),(c.hd++r)[p]?=some (k,h)→(G++F)[p]?=some ob'→(c.hd[p]?=some (k,h)∧G[p]?=some ob')∨(G.length≤p∧r[p - G.length]?=some (k,h)∧F[p - G.length]?=some ob'):=by
   intro p k h ob' s w;by_cases hp:p<G.length
   ·rw[Aq hp] at w;rw[Aq (by rw[d.len];exact hp)] at s;exact .inl ⟨s,w⟩
   ·rw[Au (by omega)] at w;rw[Au (by rw[d.len];omega),d.len] at s;exact .inr ⟨by omega,s,w⟩
  have y:∀(p k:Nat) (h:AV) (ob:LObj) (o:Nat),r[p]?=some (k,h)→F[p]?=some ob→ob.live=true→Gq h=some o→Ij ⟨r,fun o=>c.Fz o∨Ij c G o,H'⟩ F o:=fun p k h ob o s w A D=>⟨p,ob,k,h,w,A,s,D⟩
  have E:∀o,Ij ⟨c.hd++r,c.Fz,H'⟩ (G++F) o→Ij c G o∨(c.H.next≤o∧o<H'.next):=by
   rintro o ⟨p,ob',k,h,s,w,A,D⟩;rcases hinv p k h ob' A s with ⟨Z,I⟩|⟨_,B,z⟩
   ·exact .inl ⟨p,ob',k,h,I,w,Z,D⟩
   ·have:=y _ k h ob' o B z w D;exact .inr ⟨q6 o this,I.lt o this⟩
  refine⟨m,v1,H',Z,⟨c.hd++r,c.Fz,H'⟩,shV G.length S,G++F,rfl,?_,?_,?_,k⟩
  ·refine⟨by simp[d.len,H],fun o ho=>Bh (d.fz o ho) q4,fun o ho=>?_,fun o ho hf=>?_,fun p ob k h s w=>?_,fun p q ob ob' k h k' U o s w A D e5 e6 V W=>?_⟩
   ·rcases E o ho with h|h
    ·exact Bh (d.lt o h) q4
    ·exact h.2
   ·rcases E o ho with h|h
    ·exact d.sep o h hf
    ·have:=d.fz o hf;omega
   ·rcases hinv p k h ob w s with ⟨B,z⟩|⟨_,B,z⟩
    ·by_cases X:ob.live=true
     ·exact (d.obj p ob k h z B).mono hle (fun o ho=>T o (d.lt o ⟨p,ob,k,h,z,X,B,ho⟩))
     ·cases ob<;>first|exact absurd rfl X|trivial
    ·obtain⟨l,len,esz,rfl,aa⟩:=hG _ _ z;obtain⟨s0,s1,s2⟩:=I.obj _ _ _ _ z B;refine⟨s0,s1,?_⟩;rcases s2 with s2|⟨o,v,room,t,O,l',s2,s3,s4,s5,s6,s7⟩
     ·exact .inl s2
     ·exact .inr ⟨o,v,room,t,O,l',s2,s3,s4,s5,zf3 aa s6,s7⟩
   ·rcases hinv p k h ob e5 s with ⟨B,z⟩|⟨hp,B,z⟩<;>rcases hinv q k' U ob' e6 w with ⟨Q,R⟩|⟨hq,Q,R⟩
    ·exact d.excl p q ob ob' k h k' U o z R A D B Q V W
    ·have:=d.lt o ⟨p,ob,k,h,z,A,B,V⟩;have:=q6 o (y _ _ _ _ o Q R D W);omega
    ·have:=d.lt o ⟨q,ob',k',U,R,D,Q,W⟩;have:=q6 o (y _ _ _ _ o B z A V);omega
    ·have:=I.excl _ _ ob ob' k h k' U o z R A D B Q V W;omega
  ·refine⟨hle,q4,fun o ho _=>T o ho,fun o ho=>(E o ho).elim .inl (fun h=>.inr h.1),fun o ho=>.inl ho,fun p ob ob' s w=>?_,fun p ob ob' k h o s w A D e5 e6=>?_⟩
   ·rw[Aq (Aa.1 s).1,s] at w;cases w;exact Al _
   ·rw[Aq (Aa.1 s).1,s] at w;cases w;have X:ob.live=true:=by cases ob<;>first|rfl|cases e5
    exact⟨rfl,T o (d.lt o ⟨p,ob,k,h,s,X,A,D⟩),by rw[N p k h A,A]⟩
  ·refine sh_AR (fun j a hj h=>?_) S v1 J q3;cases h with
   | @dy _ _ k' hh _ e hk Y ad =>
    exact .dy (k':=k') (h:=hh) (by dsimp only;rw[Au (by rw[d.len];omega),d.len,Nat.add_sub_cancel_left];exact e) hk Y ad
end calls
end Go.Sv
namespace Go.Sv
section rules
variable {P : Program} {f n : Nat} {ρ : Fi} {D : List Nat} {G : Ff} {Q : Ja}
end rules
end Go.Sv
noncomputable section
namespace Go.Sv
def wp (P:Program)(f n:Nat)(ro:Option Nat):LC→Fi→List Nat→Ff→Ja→Prop
 |.skip,ρ,D,G,Q=>Q .normal ρ D G
 |.ops l,ρ,D,G,Q=>Nv P l ρ G fun ρ' G'=>Q .normal ρ' D G'
 |.seq a b,ρ,D,G,Q=>wp P f n ro a ρ D G fun x ρ' h G'=>match x with
  |.normal=>wp P f n ro b ρ' h G' Q
  |x=>Q x ρ' h G'
 |.cond x a b,ρ,D,G,Q=>zq (x.ev ρ) (wp P f n ro a ρ D G Q) (wp P f n ro b ρ D G Q)
 |.block id c,ρ,D,G,Q=>wp P f n ro c ρ D G fun x ρ' h G'=>match x with
  |.exit i=>if i=id then Q .normal ρ' h G' else Q (.exit i) ρ' h G'
  |x=>Q x ρ' h G'
 |.draw l,ρ,D,G,Q=>Vq P l ρ G fun ρ' G'=>Q .normal ρ' D G'
 |.exit id,ρ,D,G,Q=>Q (.exit id) ρ D G
 |.scope c,ρ,D,G,Q=>wp P f n ro c ρ D G Q
 |.label,ρ,D,G,Q=>Q .normal ρ D G
 |.ret,ρ,D,G,Q=>Q .ret ρ D G
 |.stuck,_,_,_,_=>False
 |s,ρ,D,G,Q=>W P f n s ro ρ D G Q
def Qw (P:Program)(f n:Nat)(ro:Option Nat)(b:LC)(Q:Ja):Ja:=fun x ρ' h G'=>match x with
  |.normal=>wp P f n ro b ρ' h G' Q
  |x=>Q x ρ' h G'
def kc (id:Nat)(Q:Ja):Ja:=fun x ρ' h G'=>match x with
  |.exit i=>if i=id then Q .normal ρ' h G' else Q (.exit i) ρ' h G'
  |x=>Q x ρ' h G'
def zu (Nx:Fi→List Nat→Ff→Prop)(Q:Ja):Ja:=fun x ρ' h G'=>match x with
  |.normal=>Nx ρ' h G'
  |x=>Q x ρ' h G'
def ua (K:LV→Ff→Prop)(G:Ff):List LV→Prop:=fun vs=>K (Mi vs) G
def ku (ρ:Fi)(rs:List RRes)(K:LV→Ff→Prop):Ff→Prop:=fun h=>Jt ρ h rs (ua K h)
def fq (rs : List RRes) (K : LV → Ff → Prop) : Ja := fun x ρ D G' => match x with
   |.exit _=>False
   |_=>jn D G' (ku ρ rs K)
def tq (Q:Ja)(D:List Nat):Fi→Ff→Prop:=fun ρ G=>Q .normal ρ D G
def opsK (P:Program)(l:List LI)(K:Fi→Ff→Prop):Fi→Ff→Prop:=fun ρ' G'=>Nv P l ρ' G' K
def gg (ρ:Fi)(d:Option Nat)(K:Fi→Ff→Prop):LV→Ff→Prop:=fun v G'=>K (K7 ρ d v) G'
def Q3 (K:LV→Ff→Prop)(G:Ff):LV→Prop:=fun v=>K v G
def drK (P:Program)(cs:List (LI×Bool))(l:List (LI×List (LI×Bool)))(ρ:Fi)(G:Ff)(K:Fi→Ff→Prop):Fi→Ff→Prop:=fun ρ' G'=>Pg ρ G G' cs∧Vq P l ρ' G' K
def tmpK (ρ:Fi)(t:Nat)(K:List LV→Prop):List LV→Prop:=fun vs=>K (lk ρ t::vs)
def xk (v:LV)(K:List LV→Prop):List LV→Prop:=fun vs=>K (v::vs)
def cnK (ρ:Fi)(G:Ff)(l:List RRes)(K:List LV→Prop):List LV→Prop:=fun cs=>Jt ρ G l (xk (.agg cs) K)
def Nn {P:Program}{f n:Nat}{ro:Option Nat}:∀(s:LC) {ρ:Fi} {D:List Nat} {G:Ff} {Q:Ja},wp P f n ro s ρ D G Q→W P f n s ro ρ D G Q
 |.skip,_,_,_,_,h=>uj h
 |.ops l,_,_,_,_,h=>W_ops h
 |.seq a b,_,_,_,_,h=>W_seq ((Nn a h).post fun x ρ D G k=>by
  cases x with
  |normal=>exact Nn b k
  |exit i=>exact k
  |ret=>exact k)
 |.cond x a b,ρ,_,_,_,h=>by
  simp only[wp] at h;obtain⟨t,j,h⟩:=Zc h;exact ts j (fun e=>Nn a (h.1 e)) (fun e=>Nn b (h.2 e))
 |.block id c,_,_,_,_,h=>iq (Nn c h)
 |.exit id,_,_,_,_,h=>tx h
 |.scope c,_,_,_,_,h=>jl (Nn c h)
 |.label,_,_,_,_,h=>ew h
 |.ret,_,_,_,_,h=>W_ret h
 |.stuck,_,_,_,_,h=>h.elim
 |.draw l,_,_,_,_,h=>rz h
 |.loop c,_,_,_,_,h=>h
 |.rangeF g ps a b,_,_,_,_,h=>h
section rules
variable {P : Program}
def Fo {f:Nat}{s:LC}{n:Nat}{rs:List RRes}(q:Fu P f=some ⟨n,s.r,rs⟩)(j:s.ok=true){args:List LV}{G:Ff}{K:LV→Ff→Prop}(C:args.length≤n)
  (h:wp P f n none s (V6 args 0) [] G (fq rs K)):Ju P (.fn f) args G K :=
 zwe q j C ((Nn s h).post fun x ρ D G' k=>by
  cases x with
  |normal=>exact⟨trivial,k⟩
  |exit i=>exact k.elim
  |ret=>exact⟨trivial,k⟩)
def Hf.val {f:Nat}{args:List LV}{v0:LV}(aa:v0.sim 0=true)(h:Ju P (.fn f) args [] fun v _=>v=subV [] v0):Hf P f args v0 [] :=
 .mk aa (h.mono fun v G e=>⟨[],e,rfl,trivial⟩) (fun j ob e=>by simp at e)
def ja {f n:Nat}{ro:Option Nat}{ρ:Fi}{D:List Nat}{G:Ff}{Q:Ja}{s:LC}(I:Fi→List Nat→Ff→Nat→Prop){N:Nat}(q:I ρ D G N)
  (h:∀N ρ D G,I ρ D G N→wp P f n ro s ρ D G (zu (fun ρ' C G'=>∃j,j<N∧I ρ' C G' j) Q)):W P f n (.loop s) ro ρ D G Q :=
 Zl I q fun N ρ D G k=>Nn s (h N ρ D G k)
def Iw {f n:Nat}{ro:Option Nat}{ρ:Fi}{D:List Nat}{G:Ff}{Q:Ja}{s:LC}(I:Fi→List Nat→Ff→Nat→Prop){N:Nat}(C:I ρ D G N)
  (h:∀(N:Nat) (ρ:Fi) (D:List Nat) (G:Ff),I ρ D G N→∀Nx:Fi→List Nat→Ff→Prop,(∀(ρ':Fi) (q:List Nat) (G':Ff),(∃j,j<N∧I ρ' q G' j)→Nx ρ' q G')→wp P f n ro s ρ D G (zu Nx Q)):W P f n (.loop s) ro ρ D G Q :=
 Zl I C fun N ρ D G k=>Nn s (h N ρ D G k (fun ρ' q G'=>∃j,j<N∧I ρ' q G' j) fun _ _ _ e=>e)
end rules
section congr
variable {P : Program} {ρ ρ' : Fi} {G G' : Ff} {x x' y y' : LV} {K : LV → Ff → Prop} {Kv : LV → Prop}
@[congr] theorem W_congr {f n:Nat} {s:LC} {ro:Option Nat} {D:List Nat} {Q:Ja} (h:ρ=ρ') (j:G=G'):W P f n s ro ρ D G Q=W P f n s ro ρ' D G' Q:=by rw[h,j]
@[congr] theorem wp_congr {f n:Nat} {s:LC} {ro:Option Nat} {D:List Nat} {Q:Ja} (h:ρ=ρ') (j:G=G'):wp P f n ro s ρ D G Q=wp P f n ro s ρ' D G' Q:=by rw[h,j]
@[congr] theorem mf {t:LTgt} {a h:List LV} (j:a=h) (q:G=G'):Ju P t a G K=Ju P t h G' K:=by rw[j,q]
@[congr] theorem sw {op:BinOp} {g:Bool} {t:TypeId} (h:x=x') (j:y=y'):Mw P op g t x y Kv=Mw P op g t x' y' Kv:=by rw[h,j]
@[congr] theorem unL_congr {op:UnOp} (h:x=x'):tw op x Kv=tw op x' Kv:=by rw[h]
@[congr] theorem zc {k:IntKind} (h:x=x'):ik k x Kv=ik k x' Kv:=by rw[h]
@[congr] theorem me {n:Nat} {K:List LV→Prop} (h:G=G') (j:x=x'):Ru G x n K=Ru G' x' n K:=by rw[h,j]
@[congr] theorem pj (h:G=G') (j:x=x'):Rk G x Kv=Rk G' x' Kv:=by rw[h,j]
@[congr] theorem ry {l l':List LV} {i i':Nat} (h:l=l') (j:i=i'):H7 l i Kv=H7 l' i' Kv:=by rw[h,j]
@[congr] theorem lf {r r':List LV} {K:Ff→Prop} (h:G=G') (j:x=x') (q:r=r'):O9 G x r K=O9 G' x' r' K:=by rw[h,j,q]
@[congr] theorem se {n:Nat} {K:Nat→List LV→Prop} (h:G=G') (j:x=x'):Mm G n x K=Mm G' n x' K:=by rw[h,j]
@[congr] theorem uf {K:Nat→Prop} (h:G=G') (j:x=x'):lenL G x K=lenL G' x' K:=by rw[h,j]
@[congr] theorem rp {size n n':Nat} {l l':List LV} (h:G=G') (j:x=x') (q:n=n') (C:l=l'):Ih G size x n l K=Ih G' size x' n' l' K:=by rw[h,j,q,C]
@[congr] theorem zf {t j:Bool} {A B:Prop} (h:t=j):M1 t A B=M1 j A B:=by rw[h]
@[congr] theorem yy {A B Z:Prop} (h:x=x'):cq x A B Z=cq x' A B Z:=by rw[h]
@[congr] theorem yt {A B:Prop} (h:x=x'):zq x A B=zq x' A B:=by rw[h]
end congr
def znp {t:Bool}{A B:Prop}:zq (.bool t) A B=M1 t A B:=(rfl)
def ztr {t:Bool}{A B Z:Prop}:cq (.bool t) A B Z=M1 t A B:=(rfl)
def R9 {A B Z:Prop}:cq (.tup []) A B Z=Z:=(rfl)
def zlw {A B:Prop}:M1 true A B=A:=by simp[M1]
def zij {A B:Prop}:M1 false A B=B:=by simp[M1]
def gr {p:Prop}[Decidable p]{A B:Prop}:M1 (decide p) A B=((p→A)∧(¬p→B)):=by simp[M1]
def zx7 {b:Bool}{A B:Prop}:M1 (!b) A B=M1 b B A:=by cases b<;>simp[M1]
def zqm (v:LV)(l:List LV)(K:LV→Prop):H7 (v::l) 0 K=K v:=by simp[H7]
def zoa (v:LV)(l:List LV)(i:Nat)(K:LV→Prop):H7 (v::l) (i+1) K=H7 l i K:=by simp[H7]
def zv1 {α:Type}(f:α→LV)(d:α)(l:List α)(i:Nat)(K:LV→Prop):H7 (l.map f) i K=(i<l.length∧K (f (l.getD i d))):=by
 unfold H7;by_cases h:i<l.length
 ·simp[h]
 ·simp[h]
def Y1 (l:List UInt64)(i:Nat)(K:LV→Prop):H7 (l.map .u) i K=(i<l.length∧K (.u (l.getD i 0))):=zv1 _ _ _ _ _
def U3 (o:Option LObj)(K:List LV→Nat→Prop):Prop:=match o with
 |some (.cells l st)=>K l st
 |_=>False
def J1 (o:Option LObj)(K:List LV→Nat→Nat→Nat→Nat→Prop):Prop:=match o with
 |some (.dyn l len esz h st)=>K l len esz h st
 |_=>False
def vq (o:Option (List LV))(K:List LV→Prop):Prop:=match o with
 |some l=>K l
 |none=>False
def ju (c a b:LV)(K:LV→Prop):Prop:=match c with
 |.bool t=>match a,b with
  |.bool x,.bool y=>K (.bool (match t with|true=>x|false=>y))
  |x,y=>M1 t (K x) (K y)
 |_=>False
def je (x:LV)(K:LV→Prop):Prop:=match x with
 |.ptr p i=>K (.ptr p i)
 |.dptr p k i=>K (.dptr p k i)
 |.cptr l i=>K (.cptr l i)
 |.fn (.func f) a b=>K (.fn (.func f) a b)
 |_=>False
def zyv (x y:LV)(K:Nat→Prop):Prop:=match x,y with
 |.i l,.i c=>l=c∧0≤l∧l≤1048576∧K l.toNat
 |_,_=>False
def il (x:LV)(K:Nat→Prop):Prop:=match x with
 |.i n=>0≤n∧K n.toNat
 |.u n=>K n.toNat
 |_=>False
def cj (G:Ff)(size:Nat)(x:LV)(lo:(Nat→Prop)→Prop)(hi:Nat→(Nat→Prop)→Prop)(K:LV→Prop):Prop:=match x with
 |.nilSl=>lo fun a=>hi 0 fun b=>a=0∧b=0∧K .nilSl
 |.dy p k=>J1 G[p]? fun _ len esz h _=>k=h∧esz=size∧lo fun a=>hi len fun b=>a≤b∧b≤len∧K (.vw p k a (b - a))
 |.vw p k j len=>J1 G[p]? fun _ _ esz h _=>k=h∧esz=size∧lo fun a=>hi len fun b=>a≤b∧b≤len∧K (.vw p k (j+a) (b - a))
 |.lst l len esz=>esz=size∧lo fun a=>hi len fun b=>a≤b∧b≤len∧K (.lst ((l.drop (a*esz)).take ((b - a)*esz)) (b - a) esz)
 |_=>False
def Q9 (off:Nat)(x:LV)(K:LV→Prop):Prop:=match x with
 |.ptr p i=>K (.ptr p (i+off))
 |.dptr p k i=>K (.dptr p k (i+off))
 |.cptr l i=>K (.cptr l (i+off))
 |_=>False
def ji (g:Bool)(n off:Nat)(x:LV)(K:LV→Prop):Prop:=match x with
 |.agg l=>match g with
  |true=>off+n≤l.length∧K (.agg ((l.drop off).take n))
  |false=>H7 l off K
 |_=>False
def U9 (G:Ff)(size:Nat)(x:LV)(n:Int)(K:LV→Prop):Prop:=match x with
 |.dy p k=>J1 G[p]? fun _ len esz h _=>k=h∧esz=size∧0≤n∧n<len∧K (.dptr p k (n.toNat*size))
 |.vw p k lo len=>J1 G[p]? fun _ _ esz h _=>k=h∧esz=size∧0≤n∧n<len∧K (.dptr p k ((lo+n.toNat)*size))
 |.lst l len esz=>esz=size∧0≤n∧n<len∧K (.cptr l (n.toNat*size))
 |_=>False
def ixL (G:Ff)(size:Nat)(x i:LV)(K:LV→Prop):Prop:=match i with
 |.i n=>U9 G size x n K
 |.u n=>U9 G size x (n.toNat:Int) K
 |_=>False
def ig (i:Nat)(x:LV)(K:LV→Prop):Prop:=match x with
 |.tup l=>H7 l i K
 |_=>False
def V0 (mx:Bool)(x y:LV)(K:LV→Prop):Prop:=match x,y with
 |.i a,.i b=>K (.i (match mx with|true=>max a b|false=>min a b))
 |.u a,.u b=>K (.u (match mx with|true=>if a<b then b else a|false=>if b<a then b else a))
 |_,_=>False
def ij (x:LV)(K:Nat→Prop):Prop:=match x with
 |.i n=>0≤n∧n≤1048576∧K n.toNat
 |_=>False
def zzl (G:Ff)(size:Nat)(d:LV)(n:Nat)(l:List LV)(K:LV→Ff→Prop):Prop:=match d with
 |.dy p k=>J1 G[p]? fun r len esz h st=>k=h∧esz=size∧K (.i (min n len:Nat)) (G.set p (.dyn (Hd r 0 (l.take (min n len*size))) len esz h (st+1)))
 |.vw p k lo len=>J1 G[p]? fun r j esz h st=>k=h∧esz=size∧(lo+len)*size≤r.length∧K (.i (min n len:Nat)) (G.set p (.dyn (Hd r (lo*size) (l.take (min n len*size))) j esz h (st+1)))
 |_=>False
def zor (G:Ff)(size:Nat)(z:List LV)(x:LV)(K:Ff→Prop):Prop:=match x with
 |.vw p k lo len=>J1 G[p]? fun r h esz j st=>k=j∧esz=size∧z.length=size∧(lo+len)*size≤r.length∧K (G.set p (.dyn (Hd r (lo*size) (H8 z len)) h esz j (st+1)))
 |_=>False
def goL (P:Program)(f:LV)(args:List LV)(G:Ff)(K:LV→Ff→Prop):Prop:=match f with
 |.fn (.func g) a b=>Ju P (.fn g) (a++args++b) G K
 |.fn (.yield p) [] _=>Ju P (.yield p) args G K
 |_=>False
section byOps
variable {P : Program} {ρ : Fi} {G : Ff} {K : LV → Ff → Prop} {x y c a b s d i f : Lx} {l cs z : List LV} {ps : List (Nat × Nat × Lx)} {n size len off : Nat} {lo hi : Option Lx}
def OpL_move:Gl P ρ G (.move x) K=K (x.ev ρ) G:=(rfl)
def OpL_pick:Gl P ρ G (.pick c a b) K=ju (c.ev ρ) (a.ev ρ) (b.ev ρ) (Q3 K G):=(rfl)
def OpL_alloc:Gl P ρ G (.alloc l) K=K (.ptr G.length 0) (G++[.cells l 0]):=(rfl)
def OpL_box:Gl P ρ G (.box x) K=vq (x.ev ρ).cells fun l=>K (.ptr G.length 0) (G++[.cells l 0]):=(rfl)
def OpL_build:Gl P ρ G (.build cs ps) K=vq (ie ρ cs ps) fun l=>K (.agg l) G:=(rfl)
def OpL_buildSl:Gl P ρ G (.buildSl size len cs ps) K=vq (ie ρ cs ps) fun l=>l.length=len*size∧K (.dy G.length 0) (G++[.dyn l len size 0 0]):=(rfl)
def OpL_load1:Gl P ρ G (.load1 x) K=Rk G (x.ev ρ) (Q3 K G):=(rfl)
def OpL_loadN:Gl P ρ G (.loadN n x) K=Ru G (x.ev ρ) n fun l=>K (.agg l) G:=(rfl)
def OpL_store:Gl P ρ G (.store n x y) K=vq (y.ev ρ).cells fun l=>l.length=n∧O9 G (x.ev ρ) l fun G'=>K (.tup []) G':=(rfl)
def OpL_nilChk:Gl P ρ G (.nilChk x) K=je (x.ev ρ) (Q3 K G):=(rfl)
def fx {op:BinOp}{g:Bool}{t:TypeId}:Gl P ρ G (.bin op g t x y) K=Mw P op g t (x.ev ρ) (y.ev ρ) (Q3 K G):=(rfl)
def th {op:UnOp}:Gl P ρ G (.un op x) K=tw op (x.ev ρ) (Q3 K G):=(rfl)
def zzj {k:IntKind}:Gl P ρ G (.cvInt k x) K=ik k (x.ev ρ) (Q3 K G):=(rfl)
def zvi {g:Nat}{h gs:List Lx}:Gl P ρ G (.mkFunc g h gs) K=K (.fn (.func g) (h.map (·.ev ρ)) (gs.map (·.ev ρ))) G:=(rfl)
def OpL_mkSl:Gl P ρ G (.mkSl size z a b) K=zyv (a.ev ρ) (b.ev ρ) fun n=>z.length=size∧K (.dy G.length 0) (G++[.dyn (H8 z n) n size 0 0]):=by
 simp only[Gl,zyv];cases a.ev ρ<;>cases b.ev ρ<;>rfl
def Un {x:Lx}{d:Nat}{K:Nat→Prop}:Ig ρ d (some x) K=il (x.ev ρ) K:=(rfl)
def T9 {d:Nat}{K:Nat→Prop}:Ig ρ d none K=K d:=(rfl)
def OpL_slSl:Gl P ρ G (.slSl size x lo hi) K=cj G size (x.ev ρ) (fun k=>Ig ρ 0 lo k) (fun d k=>Ig ρ d hi k) (Q3 K G):=by
 simp only[Gl,cj,J1];cases x.ev ρ<;>try rfl
 all_goals (cases G[_]?<;>try rfl)
def kh (len size:Nat)(x i:LV)(K:LV→Prop):Prop:=match i with
 |.i n=>0≤n∧n<len∧Q9 (n.toNat*size) x K
 |_=>False
def jv (g:Bool)(len size:Nat)(x i:LV)(K:LV→Prop):Prop:=match i with
 |.i n=>0≤n∧n<len∧ji g size (n.toNat*size) x K
 |_=>False
def zm8 {len size:Nat}{x i:Lx}:Gl P ρ G (.ixAddrArr len size x i) K=kh len size (x.ev ρ) (i.ev ρ) (Q3 K G):=(rfl)
def Us {g:Bool}{len size:Nat}{x i:Lx}:Gl P ρ G (.ixArr g len size x i) K=jv g len size (x.ev ρ) (i.ev ρ) (Q3 K G):=(rfl)
def OpL_fieldAddr:Gl P ρ G (.fieldAddr off x) K=Q9 off (x.ev ρ) (Q3 K G):=(rfl)
def OpL_ixAddr:Gl P ρ G (.ixAddr size x i) K=ixL G size (x.ev ρ) (i.ev ρ) (Q3 K G):=by
 simp only[Gl,ixL,U9,ixO,J1];cases i.ev ρ<;>try rfl
def OpL_extract:Gl P ρ G (.extract n x) K=ig n (x.ev ρ) (Q3 K G):=(rfl)
def OpL_lenSl:Gl P ρ G (.lenSl x) K=lenL G (x.ev ρ) fun n=>K (.i n) G:=(rfl)
def Zo {g:Bool}:Gl P ρ G (.maxi g x y) K=V0 g (x.ev ρ) (y.ev ρ) (Q3 K G):=(rfl)
def OpL_appZ:Gl P ρ G (.appZ size z s x) K=ij (x.ev ρ) fun n=>z.length=size∧Ih G size (s.ev ρ) n (H8 z n) K:=(rfl)
def OpL_appG:Gl P ρ G (.appG size s x) K=Mm G size (x.ev ρ) fun n l=>n≤1048576∧Ih G size (s.ev ρ) n l K:=(rfl)
def OpL_copy:Gl P ρ G (.copy size d x) K=Mm G size (x.ev ρ) fun n l=>zzl G size (d.ev ρ) n l K:=by
 simp only[Gl,zzl,J1]
 congr 1
def OpL_clear:Gl P ρ G (.clear size z x) K=zor G size z (x.ev ρ) fun G'=>K .any G':=by
 simp only[Gl,zor,J1]
 congr 1
def zyw {args:List Lx}:Gl P ρ G (.callV f args) K=goL P (f.ev ρ) (args.map (·.ev ρ)) G K:=(rfl)
end byOps
section opened
variable {P : Program} {G : Ff} {p k i n size lo len off esz : Nat} {l r new : List LV} {K : List LV → Prop} {K1 : LV → Prop} {KG : Ff → Prop} {KN : Nat → Prop} {KR : Nat → List LV → Prop} {KV : LV → Ff → Prop} {KS : List UInt8 → Prop} {lof mxf : (Nat → Prop) → Prop} {hif : Nat → (Nat → Prop) → Prop}
def ztt {l:List LV}{st:Nat}{K:List LV→Nat→Prop}:U3 (some (.cells l st)) K=K l st:=(rfl)
def zu8 {l:List LV}{len esz h st:Nat}{K:List LV→Nat→Nat→Nat→Nat→Prop}:J1 (some (.dyn l len esz h st)) K=K l len esz h st:=(rfl)
def cellsL_some:vq (some l) K=K l:=(rfl)
def zls {a b:LV}:ju (.bool true) a b K1=K1 a:=by cases a<;>cases b<;>simp[ju,M1]
def zjx {a b:LV}:ju (.bool false) a b K1=K1 b:=by cases a<;>cases b<;>simp[ju,M1]
def zp9 {t x:Bool}:ju (.bool t) (.bool x) (.bool false) K1=K1 (.bool (t&&x)):=by cases t<;>rfl
def zu0 {t x:Bool}:ju (.bool t) (.bool true) (.bool x) K1=K1 (.bool (t || x)):=by cases t<;>rfl
def chkL_ptr:je (.ptr p i) K1=K1 (.ptr p i):=(rfl)
def zxw {a b:Int}:zyv (.i a) (.i b) KN=(a=b∧0≤a∧a≤1048576∧KN a.toNat):=(rfl)
def Zq {a:Int}:il (.i a) KN=(0≤a∧KN a.toNat):=(rfl)
def slL_nil:cj G size .nilSl lof hif K1=(lof fun a=>hif 0 fun b=>a=0∧b=0∧K1 .nilSl):=(rfl)
def slL_dy:cj G size (.dy p k) lof hif K1=(J1 G[p]? fun _ len esz h _=>k=h∧esz=size∧lof fun a=>hif len fun b=>a≤b∧b≤len∧K1 (.vw p k a (b - a))):=(rfl)
def slL_vw:cj G size (.vw p k lo len) lof hif K1=(J1 G[p]? fun _ _ esz h _=>k=h∧esz=size∧lof fun a=>hif len fun b=>a≤b∧b≤len∧K1 (.vw p k (lo+a) (b - a))):=(rfl)
def slL_lst:cj G size (.lst l len esz) lof hif K1=(esz=size∧lof fun a=>hif len fun b=>a≤b∧b≤len∧K1 (.lst ((l.drop (a*esz)).take ((b - a)*esz)) (b - a) esz)):=(rfl)
def offL_ptr:Q9 off (.ptr p i) K1=K1 (.ptr p (i+off)):=(rfl)
def offL_cptr:Q9 off (.cptr l i) K1=K1 (.cptr l (i+off)):=(rfl)
def fldL_true:ji true n off (.agg l) K1=(off+n≤l.length∧K1 (.agg ((l.drop off).take n))):=(rfl)
def fldL_false:ji false n off (.agg l) K1=H7 l off K1:=(rfl)
def mh {x:LV}{n:Int}:ixL G size x (.i n) K1=U9 G size x n K1:=(rfl)
def ox {x:LV}{n:UInt64}:ixL G size x (.u n) K1=U9 G size x (n.toNat:Int) K1:=(rfl)
def zxu {n:Int}:U9 G size (.dy p k) n K1=(J1 G[p]? fun _ len esz h _=>k=h∧esz=size∧0≤n∧n<len∧K1 (.dptr p k (n.toNat*size))):=(rfl)
def zz2 {n:Int}:U9 G size (.vw p k lo len) n K1=(J1 G[p]? fun _ _ esz h _=>k=h∧esz=size∧0≤n∧n<len∧K1 (.dptr p k ((lo+n.toNat)*size))):=(rfl)
def Sd {n:Int}:U9 G size (.lst l len esz) n K1=(esz=size∧0≤n∧n<len∧K1 (.cptr l (n.toNat*size))):=(rfl)
def tupL_tup:ig i (.tup l) K1=H7 l i K1:=(rfl)
def Yb {len size:Nat}{x:LV}{n:Int}:kh len size x (.i n) K1=(0≤n∧n<len∧Q9 (n.toNat*size) x K1):=(rfl)
def Yj {g:Bool}{len size:Nat}{x:LV}{n:Int}:jv g len size x (.i n) K1=(0≤n∧n<len∧ji g size (n.toNat*size) x K1):=(rfl)
def Sg {a b:Int}:Pb .and a b K1=(0≤a∧a<9223372036854775808∧0≤b∧b<9223372036854775808∧K1 (.i (a.toNat &&& b.toNat:Nat))):=(rfl)
def Sa {a b:Int}:V0 true (.i a) (.i b) K1=K1 (.i (max a b)):=(rfl)
def R8 {a b:Int}:V0 false (.i a) (.i b) K1=K1 (.i (min a b)):=(rfl)
def Vs {n:Int}:ij (.i n) KN=(0≤n∧n≤1048576∧KN n.toNat):=(rfl)
def zto {n:Nat}:zzl G size (.dy p k) n l KV=(J1 G[p]? fun r len esz h st=>k=h∧esz=size∧KV (.i (min n len:Nat)) (G.set p (.dyn (Hd r 0 (l.take (min n len*size))) len esz h (st+1)))):=(rfl)
def zpk {z:List LV}{KH:Ff→Prop}:zor G size z (.vw p k lo len) KH=(J1 G[p]? fun r h esz j st=>k=j∧esz=size∧z.length=size∧(lo+len)*size≤r.length∧KH (G.set p (.dyn (Hd r (lo*size) (H8 z len)) h esz j (st+1)))):=(rfl)
def Xg {g:Nat}{a b args:List LV}:goL P (.fn (.func g) a b) args G KV=Ju P (.fn g) (a++args++b) G KV:=(rfl)
def readL_ptr:Ru G (.ptr p i) n K=U3 G[p]? fun l _=>i+n≤l.length∧K ((l.drop i).take n):=by
 simp only[Ru,U3];cases G[p]?<;>try rfl
def readL_cptr:Ru G (.cptr l i) n K=(i+n≤l.length∧K ((l.drop i).take n)):=(rfl)
def read1_ptr:Rk G (.ptr p i) K1=U3 G[p]? fun l _=>H7 l i K1:=by
 simp only[Rk,U3];cases G[p]?<;>try rfl
def read1_dptr:Rk G (.dptr p k i) K1=J1 G[p]? fun l _ _ h _=>k=h∧H7 l i K1:=by
 simp only[Rk,J1];cases G[p]?<;>try rfl
def read1_cptr:Rk G (.cptr l i) K1=H7 l i K1:=(rfl)
def writeL_ptr:O9 G (.ptr p i) r KG=U3 G[p]? fun l st=>i+r.length≤l.length∧KG (G.set p (.cells (Hd l i r) (st+1))):=by
 simp only[O9,U3];cases G[p]?<;>try rfl
def writeL_dptr:O9 G (.dptr p k i) r KG=J1 G[p]? fun l len esz h st=>k=h∧i+r.length≤l.length∧KG (G.set p (.dyn (Hd l i r) len esz h (st+1))):=by
 simp only[O9,J1];cases G[p]?<;>try rfl
def rowL_dy:Mm G size (.dy p k) KR=J1 G[p]? fun l len esz h _=>k=h∧esz=size∧KR len l:=by
 simp only[Mm,J1];cases G[p]?<;>try rfl
def rowL_lst:Mm G size (.lst l len esz) KR=(esz=size∧KR len l):=(rfl)
def lenL_nil:lenL G .nilSl KN=KN 0:=(rfl)
def lenL_dy:lenL G (.dy p k) KN=J1 G[p]? fun _ len _ h _=>k=h∧KN len:=by
 simp only[lenL,J1];cases G[p]?<;>try rfl
def lenL_vw:lenL G (.vw p k lo len) KN=J1 G[p]? fun _ _ _ h _=>k=h∧KN len:=by
 simp only[lenL,J1];cases G[p]?<;>try rfl
def lenL_lst:lenL G (.lst l len esz) KN=KN len:=(rfl)
def appL_nil:Ih G size .nilSl n new KV=KV (.dy G.length 0) (G++[.dyn new n size 0 0]):=(rfl)
def appL_dy:Ih G size (.dy p k) n new KV=J1 G[p]? fun l len esz h st=>k=h∧(esz=size∧0<esz)∧len≤1000000000∧KV (.dy p (h+1)) (G.set p (.dyn (l++new) (len+n) esz (h+1) (st+1))):=by
 simp only[Ih,J1];cases G[p]?<;>try rfl
def appL_vw:Ih G size (.vw p k lo len) n new KV=J1 G[p]? fun l j esz h st=>k=h∧(esz=size∧lo=0∧0<n)∧len≤1000000000∧if (len+n)*esz≤l.length then KV (.vw p k 0 (len+n)) (G.set p (.dyn (Hd l (len*esz) new) j esz h (st+1)))∧KV (.dy G.length 0) (G++[.dyn (l.take (len*esz)++new) (len+n) size 0 0]) else len=j∧0<esz∧KV (.dy p (h+1)) (G.set p (.dyn (l++new) (len+n) esz (h+1) (st+1)))∧KV (.dy G.length 0) (G++[.dyn (l++new) (len+n) size 0 0]):=by
 simp only[Ih,J1];cases G[p]?<;>try rfl
variable {op : BinOp} {g : Bool} {t : TypeId}
def zy5 {a b:UInt64}:Mw P op g t (.u a) (.u b) K1=Of op a b K1:=(rfl)
def zzn {a b:Int}:Mw P op g t (.i a) (.i b) K1=Pb op a b K1:=(rfl)
def zqf {a:Int}{s:UInt64}:Mw P .shl g t (.i a) (.u s) K1=(0≤a∧s.toNat≤64∧M9 (a*2^s.toNat)∧K1 (.i (a*2^s.toNat))):=(rfl)
def ztm {a b:Bool}:Mw P .neq g t (.bool a) (.bool b) K1=(Ks P g t (.bool a) (.bool b)=some (a==b)∧K1 (.bool (!(a==b)))):=(rfl)
def Sq {b:Bool}:tw .not (.bool b) K1=K1 (.bool (!b)):=(rfl)
def V1 {a:Int}:ik .u64 (.i a) K1=K1 (.u (iU a)):=(rfl)
def Xh {a:UInt64}:ik .i64 (.u a) K1=(a.toNat<9223372036854775808∧K1 (.i a.toNat)):=(rfl)
def zum {l:List LV}{len esz:Nat}:Mw P .eql g t (.lst l len esz) .nilSl K1=(Ks P g t .nilSl .nilSl=some true∧K1 (.bool false)∧(len=0→K1 (.bool true))):=(rfl)
end opened
section code
variable {P : Program} {f n : Nat} {ro : Option Nat} {ρ ρ' : Fi} {D : List Nat} {G G' : Ff} {Q : Ja} {a b c : LC} {x : Lx} {id i t d : Nat} {l : List LI} {ds : List (LI × List (LI × Bool))} {cs : List (LI × Bool)} {K : Fi → Ff → Prop} {KV : LV → Ff → Prop} {KL : List LV → Prop} {KG : Ff → Prop} {Nx : Fi → List Nat → Ff → Prop} {rs : List RRes} {o : LOp} {od : Option Nat} {v w : LV} {vs : List LV} {it : LI}
def wp_skip:wp P f n ro .skip ρ D G Q=Q .normal ρ D G:=(rfl)
def wp_ops:wp P f n ro (.ops l) ρ D G Q=Nv P l ρ G (tq Q D):=(rfl)
def wp_seq:wp P f n ro (.seq a b) ρ D G Q=wp P f n ro a ρ D G (Qw P f n ro b Q):=(rfl)
def wp_cond:wp P f n ro (.cond x a b) ρ D G Q=zq (x.ev ρ) (wp P f n ro a ρ D G Q) (wp P f n ro b ρ D G Q):=(rfl)
def wp_block:wp P f n ro (.block id c) ρ D G Q=wp P f n ro c ρ D G (kc id Q):=(rfl)
def wp_draw:wp P f n ro (.draw ds) ρ D G Q=Vq P ds ρ G (tq Q D):=(rfl)
def wp_exit:wp P f n ro (.exit id) ρ D G Q=Q (.exit id) ρ D G:=(rfl)
def wp_ret:wp P f n ro .ret ρ D G Q=Q .ret ρ D G:=(rfl)
def wp_loop:wp P f n ro (.loop c) ρ D G Q=W P f n (.loop c) ro ρ D G Q:=(rfl)
def seqQ_n:Qw P f n ro b Q .normal ρ D G=wp P f n ro b ρ D G Q:=(rfl)
def seqQ_e:Qw P f n ro b Q (.exit i) ρ D G=Q (.exit i) ρ D G:=(rfl)
def seqQ_r:Qw P f n ro b Q .ret ρ D G=Q .ret ρ D G:=(rfl)
def blkQ_n:kc id Q .normal ρ D G=Q .normal ρ D G:=(rfl)
def blkQ_e:kc id Q (.exit i) ρ D G=if i=id then Q .normal ρ D G else Q (.exit i) ρ D G:=(rfl)
def blkQ_r:kc id Q .ret ρ D G=Q .ret ρ D G:=(rfl)
def nxQ_n:zu Nx Q .normal ρ D G=Nx ρ D G:=(rfl)
def nxQ_e:zu Nx Q (.exit i) ρ D G=Q (.exit i) ρ D G:=(rfl)
def nxQ_r:zu Nx Q .ret ρ D G=Q .ret ρ D G:=(rfl)
def endQ_n:fq rs KV .normal ρ D G=jn D G (ku ρ rs KV):=(rfl)
def endQ_r:fq rs KV .ret ρ D G=jn D G (ku ρ rs KV):=(rfl)
def norQ_app:tq Q D ρ G=Q .normal ρ D G:=(rfl)
def takeL_nil:jn [] G KG=KG G:=(rfl)
def takK_app:ku ρ rs KV G=Jt ρ G rs (ua KV G):=(rfl)
def endK_app:ua KV G vs=KV (Mi vs) G:=(rfl)
def resL_nil:Jt ρ G [] KL=KL []:=(rfl)
def resL_tmp:Jt ρ G (.tmp t::rs) KL=Jt ρ G rs (tmpK ρ t KL):=(rfl)
def resL_cN:Jt ρ G (.cellN t n::rs) KL=Ru G (lk ρ t) n (cnK ρ G rs KL):=(rfl)
def tmpK_app:tmpK ρ t KL vs=KL (lk ρ t::vs):=(rfl)
def conK_app:xk v KL vs=KL (v::vs):=(rfl)
def cnK_app:cnK ρ G rs KL vs=Jt ρ G rs (xk (.agg vs) KL):=(rfl)
def oneL_1:Mi [v]=v:=(rfl)
def oneL_0:Mi []=.tup []:=(rfl)
def oneL_2:Mi (v::w::vs)=.tup (v::w::vs):=(rfl)
def OpsL_nil:Nv P [] ρ G K=K ρ G:=(rfl)
def OpsL_cons:Nv P (it::l) ρ G K=Ud P it ρ G (opsK P l K):=(rfl)
def opsK_app:opsK P l K ρ G=Nv P l ρ G K:=(rfl)
def ItL_n:Ud P ⟨od,none,o⟩ ρ G K=Gl P ρ G o (gg ρ od K):=(rfl)
def ItL_t:Ud P ⟨od,some (t,true),o⟩ ρ G K=cq (lk ρ t) (Gl P (setL t (.bool true) ρ) G o (gg (setL t (.bool true) ρ) od K)) (gg (setL t (.bool false) ρ) od K (.tup []) G) (gg ρ od K (.tup []) G):=(rfl)
def ItL_f:Ud P ⟨od,some (t,false),o⟩ ρ G K=cq (lk ρ t) (gg (setL t (.bool true) ρ) od K (.tup []) G) (Gl P (setL t (.bool false) ρ) G o (gg (setL t (.bool false) ρ) od K)) (gg ρ od K (.tup []) G):=(rfl)
def itK_some:gg ρ (some d) K v G=K ((d,v)::ρ) G:=(rfl)
def itK_none:gg ρ none K v G=K ρ G:=(rfl)
def atG_app:Q3 KV G v=KV v G:=(rfl)
def DrL_nil:Vq P [] ρ G K=K ρ G:=(rfl)
def DrL_cons:Vq P ((it,cs)::ds) ρ G K=Ud P it ρ G (drK P cs ds ρ G K):=(rfl)
def drK_app:drK P cs ds ρ G K ρ' G'=(Pg ρ G G' cs∧Vq P ds ρ' G' K):=(rfl)
def ev_t:(Lx.t i).ev ρ=lk ρ i:=(rfl)
def ev_c:(Lx.c v).ev ρ=v:=(rfl)
def argsL_nil:V6 [] i=[]:=(rfl)
def argsL_cons:V6 (v::vs) i=(i,v)::V6 vs (i+1):=(rfl)
def setL_cons:setL t v ((d,w)::ρ)=if t=d then (d,v)::ρ else (d,w)::setL t v ρ:=(rfl)
end code
section nums
variable {K : LV → Prop}
def Sl {a b:UInt64}:Of .add a b K=K (.u (Jm a b)):=(rfl)
def zws {a b:UInt64}:Of .sub a b K=K (.u (Tq a b)):=(rfl)
def zyf {a b:UInt64}:Of .mul a b K=K (.u (Lu a b)):=(rfl)
def Sz {a b:UInt64}:Of .rem a b K=(b≠0∧K (.u (S5 a b))):=(rfl)
def zyi {a b:UInt64}:Of .shl a b K=K (.u (Kh a b.toNat)):=(rfl)
def R2 {a b:UInt64}:Of .shr a b K=K (.u (It a b.toNat)):=(rfl)
def Sf {a b:UInt64}:Of .and a b K=K (.u (Kg a b)):=(rfl)
def V5 {a b:UInt64}:Of .or a b K=K (.u (Pj a b)):=(rfl)
def zy6 {a b:UInt64}:Of .xor a b K=K (.u (iz a b)):=(rfl)
def zyq {a b:UInt64}:Of .eql a b K=K (.bool (decide (a=b))):=(rfl)
def zzp {a b:UInt64}:Of .neq a b K=K (.bool (decide (a≠b))):=(rfl)
def Ss {a b:UInt64}:Of .lss a b K=K (.bool (decide (a<b))):=(rfl)
def zx5 {a b:UInt64}:Of .leq a b K=K (.bool (decide (a≤b))):=(rfl)
def zzz {a b:UInt64}:Of .gtr a b K=K (.bool (decide (b<a))):=(rfl)
def zxl {a b:UInt64}:Of .geq a b K=K (.bool (decide (b≤a))):=(rfl)
def zxg {a b:Int}:Pb .add a b K=(M9 (a+b)∧K (.i (a+b))):=(rfl)
def zyh {a b:Int}:Pb .sub a b K=(M9 (a - b)∧K (.i (a - b))):=(rfl)
def zz6 {a b:Int}:Pb .mul a b K=(M9 (a*b)∧K (.i (a*b))):=(rfl)
def Se {a b:Int}:Pb .quo a b K=(b≠0∧M9 (a.tdiv b)∧K (.i (a.tdiv b))):=(rfl)
def zz5 {a b:Int}:Pb .rem a b K=(b≠0∧K (.i (a.tmod b))):=(rfl)
def zyg {a b:Int}:Pb .shl a b K=(0≤a∧0≤b∧b≤64∧M9 (a*2^b.toNat)∧K (.i (a*2^b.toNat))):=(rfl)
def Sx {a b:Int}:Pb .shr a b K=(0≤a∧0≤b∧b≤64∧K (.i (a/2^b.toNat))):=(rfl)
def Sw {a b:Int}:Pb .eql a b K=K (.bool (decide (a=b))):=(rfl)
def R1 {a b:Int}:Pb .neq a b K=K (.bool (decide (a≠b))):=(rfl)
def zxb {a b:Int}:Pb .lss a b K=K (.bool (decide (a<b))):=(rfl)
def zxe {a b:Int}:Pb .leq a b K=K (.bool (decide (a≤b))):=(rfl)
def zzo {a b:Int}:Pb .gtr a b K=K (.bool (decide (b<a))):=(rfl)
def R3 {a b:Int}:Pb .geq a b K=K (.bool (decide (b≤a))):=(rfl)
end nums
section congr2
variable {P : Program} {G G' : Ff} {x x' y y' z z' : LV} {K : LV → Ff → Prop} {Kv : LV → Prop} {n n' size : Nat}
@[congr] theorem zz {o j:Option LObj} {K:List LV→Nat→Prop} (h:o=j):U3 o K=U3 j K:=by rw[h]
@[congr] theorem atD_congr {o j:Option LObj} {K:List LV→Nat→Nat→Nat→Nat→Prop} (h:o=j):J1 o K=J1 j K:=by rw[h]
@[congr] theorem gj {o j:Option (List LV)} {K:List LV→Prop} (h:o=j):vq o K=vq j K:=by rw[h]
@[congr] theorem mv (h:x=x') (j:y=y') (q:z=z'):ju x y z Kv=ju x' y' z' Kv:=by rw[h,j,q]
@[congr] theorem yj (h:x=x'):je x Kv=je x' Kv:=by rw[h]
@[congr] theorem ns {K:Nat→Prop} (h:x=x') (j:y=y'):zyv x y K=zyv x' y' K:=by rw[h,j]
@[congr] theorem wj {K:Nat→Prop} (h:x=x'):il x K=il x' K:=by rw[h]
@[congr] theorem slL_congr {lo:(Nat→Prop)→Prop} {hi:Nat→(Nat→Prop)→Prop} (h:G=G') (j:x=x'):cj G size x lo hi Kv=cj G' size x' lo hi Kv:=by rw[h,j]
@[congr] theorem ui (h:x=x'):Q9 n x Kv=Q9 n x' Kv:=by rw[h]
@[congr] theorem y7 (h:G=G') (j:x=x') (q:y=y'):ixL G size x y Kv=ixL G' size x' y' Kv:=by rw[h,j,q]
@[congr] theorem yr {i i':Int} (h:G=G') (j:x=x') (q:i=i'):U9 G size x i Kv=U9 G' size x' i' Kv:=by rw[h,j,q]
@[congr] theorem xx (h:x=x'):ig n x Kv=ig n x' Kv:=by rw[h]
@[congr] theorem x9 {len size:Nat} (h:x=x') (j:y=y'):kh len size x y Kv=kh len size x' y' Kv:=by rw[h,j]
@[congr] theorem wh {g:Bool} {len size:Nat} (h:x=x') (j:y=y'):jv g len size x y Kv=jv g len size x' y' Kv:=by rw[h,j]
@[congr] theorem vu {g:Bool} (h:x=x') (j:y=y'):V0 g x y Kv=V0 g x' y' Kv:=by rw[h,j]
@[congr] theorem ss {K:Nat→Prop} (h:x=x'):ij x K=ij x' K:=by rw[h]
@[congr] theorem fi {z z':List LV} {KH:Ff→Prop} (h:G=G') (j:x=x') (q:z=z'):zor G size z x KH=zor G' size z' x' KH:=by rw[h,j,q]
@[congr] theorem oq {l l':List LV} (h:G=G') (j:x=x') (q:n=n') (C:l=l'):zzl G size x n l K=zzl G' size x' n' l' K:=by rw[h,j,q,C]
@[congr] theorem goL_congr {l l':List LV} (h:x=x') (j:l=l') (q:G=G'):goL P x l G K=goL P x' l' G' K:=by rw[h,j,q]
end congr2
def LU (a:List UInt64):LV:=.lst (a.map .u) a.length 1
def qu (a:List UInt64):dats (a.map LV.u)=true:=zcl (fun _=>rfl) a
def zlg (l r:List LV):Hd l 0 r=r++l.drop r.length:=by simp[Hd]
def zv2 (v:LV)(l r:List LV)(i:Nat):Hd (v::l) (i+1) r=v::Hd l i r:=by
 unfold Hd;rw[show i+1+r.length=(i+r.length)+1 from by omega];simp
attribute [simp] Pg ckL tl nr j6 LObj.stp LObj.st zqm zoa Y1 Y4 zit ie LV.cells subV subVs Pz xi shV shVs frV frVs bor bors LV.dat dats LV.scal LV.sim sims qu zlg zv2 LU M9
attribute [simp] znp ztr R9 zlw zij gr zx7
attribute [simp ↓] znp ztr R9 zlw zij zx7 zqm zoa Y1
attribute [simp ↓] OpL_move OpL_pick OpL_alloc OpL_box OpL_build OpL_buildSl OpL_load1 OpL_loadN OpL_store OpL_nilChk fx th zzj zvi OpL_mkSl Un T9 OpL_slSl OpL_fieldAddr OpL_ixAddr OpL_extract OpL_lenSl Zo OpL_appZ OpL_appG OpL_copy zyw
attribute [simp] ztt zu8 cellsL_some zls zjx zp9 zu0 chkL_ptr zxw Zq slL_nil slL_dy slL_vw slL_lst offL_ptr offL_cptr fldL_true fldL_false mh ox zxu zz2 Sd tupL_tup Sa R8 Vs zto Xg readL_ptr readL_cptr read1_ptr read1_dptr read1_cptr writeL_ptr writeL_dptr rowL_dy rowL_lst lenL_nil lenL_dy lenL_vw lenL_lst appL_nil appL_dy appL_vw zy5 zzn zqf ztm zum Sq V1 Xh
attribute [simp ↓] ztt zu8 cellsL_some zls zjx zp9 zu0 chkL_ptr zxw Zq slL_nil slL_dy slL_vw slL_lst offL_ptr offL_cptr fldL_true fldL_false mh ox zxu zz2 Sd tupL_tup Sa R8 Vs zto Xg readL_ptr readL_cptr read1_ptr read1_dptr read1_cptr writeL_ptr writeL_dptr rowL_dy rowL_lst lenL_nil lenL_dy lenL_vw lenL_lst appL_nil appL_dy appL_vw zy5 zzn zqf ztm zum Sq V1 Xh
attribute [simp] wp_skip wp_ops wp_seq wp_cond wp_block wp_draw wp_exit wp_ret wp_loop seqQ_n seqQ_e seqQ_r blkQ_n blkQ_e blkQ_r nxQ_n nxQ_e nxQ_r endQ_n endQ_r norQ_app takeL_nil takK_app endK_app resL_nil resL_tmp resL_cN tmpK_app conK_app cnK_app oneL_1 oneL_0 oneL_2 OpsL_nil OpsL_cons opsK_app ItL_n ItL_t ItL_f itK_some itK_none atG_app DrL_nil DrL_cons drK_app ev_t ev_c argsL_nil argsL_cons setL_cons Sl zws zyf Sz zyi R2 Sf V5 zy6 zyq zzp Ss zx5 zzz zxl zxg zyh zz6 Se zz5 zyg Sx Sw R1 zxb zxe zzo R3
attribute [simp ↓] wp_skip wp_ops wp_seq wp_cond wp_block wp_draw wp_exit wp_ret wp_loop seqQ_n seqQ_e seqQ_r blkQ_n blkQ_e blkQ_r nxQ_n nxQ_e nxQ_r endQ_n endQ_r norQ_app takeL_nil takK_app endK_app resL_nil resL_tmp resL_cN tmpK_app conK_app cnK_app oneL_1 oneL_0 oneL_2 OpsL_nil OpsL_cons opsK_app ItL_n ItL_t ItL_f itK_some itK_none atG_app DrL_nil DrL_cons drK_app ev_t ev_c argsL_nil argsL_cons setL_cons Sl zws zyf Sz zyi R2 Sf V5 zy6 zyq zzp Ss zx5 zzz zxl zxg zyh zz6 Se zz5 zyg Sx Sw R1 zxb zxe zzo R3
attribute [simp] Yb Yj Sg
attribute [simp] zpk
attribute [simp ↓] OpL_clear zpk zm8 Us Yb Yj Sg
def Yo (o:Option Bool)(A B:Prop):Prop:=match o with
 |some b=>M1 b A B
 |none=>False
def yk (o:Option LObj)(K:List (LV×LV×Nat)→Nat→Nat→Prop):Prop:=match o with
 |some (.map es ck st)=>K es ck st
 |_=>False
def qm (d:TypeDesc)(k z:LV)(ok:Bool)(K:LV→Prop):List (LV×LV×Nat)→Prop:=fun es=>kv d k (Qa z ok K) es
def conM (x:LV×LV×Nat)(K:List (LV×LV×Nat)→Bool→Prop):List (LV×LV×Nat)→Bool→Prop:=fun r new=>K (x::r) new
def vm (G:Ff)(n size:Nat)(x:LV)(lo:(Nat→Prop)→Prop)(hi:Nat→(Nat→Prop)→Prop)(K:LV→Ff→Prop):Prop:=match x with
 |.ptr p i=>U3 G[p]? fun l st=>i+n*size≤l.length∧lo fun a=>hi n fun b=>a≤b∧b≤n∧K (.lst ((l.drop (i+a*size)).take ((b - a)*size)) (b - a) size) (G.set p (.dead (st+1)))
 |_=>False
section maps
variable {P : Program} {ρ : Fi} {G G' : Ff} {K : LV → Ff → Prop} {K1 : LV → Prop} {x i m k v z x' k' : LV} {X I M V : Lx} {d : TypeDesc} {ok : Bool} {es es' : List (LV × LV × Nat)} {KE : List (LV × LV × Nat) → Prop} {KB : List (LV × LV × Nat) → Bool → Prop} {KH : Ff → Prop} {p ck st n size : Nat} {lo hi : Option Lx} {A B : Prop} {lof : (Nat → Prop) → Prop} {hif : Nat → (Nat → Prop) → Prop}
def OpL_mkMap0:Gl P ρ G .mkMap0 K=K (.map G.length) (G++[.map [] 0 0]):=(rfl)
def OpL_lookup:Gl P ρ G (.lookup d z ok X I) K=Qz G (X.ev ρ) (qm d (I.ev ρ) z ok (Q3 K G)):=(rfl)
def OpL_mapUpd:Gl P ρ G (.mapUpd d M I V) K=mr G d (M.ev ρ) (I.ev ρ) (V.ev ρ) fun G'=>K .any G':=(rfl)
def OpL_slArr:Gl P ρ G (.slArr n size X lo hi) K=vm G n size (X.ev ρ) (fun k=>Ig ρ 0 lo k) (fun d k=>Ig ρ d hi k) K:=by
 simp only[Gl,vm,U3];cases X.ev ρ<;>try rfl
 all_goals (cases G[_]?<;>try rfl)
def zta {K:List (LV×LV×Nat)→Nat→Nat→Prop}:yk (some (.map es ck st)) K=K es ck st:=(rfl)
def mapL_map:Qz G (.map p) KE=yk G[p]? fun es _ _=>KE es:=by
 simp only[Qz,yk];cases G[p]?<;>try rfl
def lookM_app:qm d k z ok K1 es=kv d k (Qa z ok K1) es:=(rfl)
def zp8 {h:Option LV→Prop}:kv d k h []=h none:=(rfl)
def zlk {h:Option LV→Prop}:kv d k h ((k',v,n)::es)=Yo (Rd d k k') (h (some v)) (kv d k h es):=(rfl)
def lookK_st:Qa z true K1 (some v)=K1 (.tup [v,.bool true]):=(rfl)
def lookK_nt:Qa z true K1 none=K1 (.tup [z,.bool false]):=(rfl)
def updL'_map:mr G d (.map p) k v KH=yk G[p]? fun es ck st=>Pm d k v ck (vh G p ck st KH) es:=by
 simp only[mr,yk];cases G[p]?<;>try rfl
def putL_nil:Pm d k v ck KB []=KB [(k,v,ck)] true:=(rfl)
def zpy {w:LV}:Pm d k v ck KB ((k',w,n)::es)=Yo (Rd d k k') (KB ((k,v,n)::es) false) (Pm d k v ck (conM (k',w,n) KB) es):=(rfl)
def ztx {y:LV×LV×Nat}{b:Bool}:conM y KB es b=KB (y::es) b:=(rfl)
def setK_t:vh G p ck st KH es true=KH (G.set p (.map es (ck+1) (st+1))):=(rfl)
def zq4 {b:Bool}:Yo (some b) A B=M1 b A B:=(rfl)
def Ye {h:IntKind}{a b:Int}:Rd (.int h) (.i a) (.i b)=some (decide (a=b)):=(rfl)
def zur {j:Nat}:vm G n size (.ptr p j) lof hif K=U3 G[p]? fun l st=>j+n*size≤l.length∧lof fun a=>hif n fun b=>a≤b∧b≤n∧K (.lst ((l.drop (j+a*size)).take ((b - a)*size)) (b - a) size) (G.set p (.dead (st+1))):=(rfl)
@[congr] theorem zh {o j:Option LObj} {K:List (LV×LV×Nat)→Nat→Nat→Prop} (h:o=j):yk o K=yk j K:=by rw[h]
@[congr] theorem ou {h j:LV} (q:G=G') (C:m=j) (E:k=k') (F:v=h):mr G d m k v KH=mr G' d j k' h KH:=by rw[q,C,E,F]
@[congr] theorem tn {o j:Option Bool} (h:o=j):Yo o A B=Yo j A B:=by rw[h]
end maps
attribute [simp] zta mapL_map lookM_app zp8 zlk lookK_st lookK_nt updL'_map putL_nil zpy ztx setK_t zq4 Ye zur
attribute [simp ↓] OpL_mkMap0 OpL_lookup OpL_mapUpd OpL_slArr zta mapL_map lookM_app zp8 zlk lookK_st lookK_nt updL'_map putL_nil zpy ztx setK_t zq4 Ye zur
abbrev LI.z (d:Nat)(o:LOp):LI:=⟨some d,none,o⟩
abbrev LI.m (d t:Nat):LI:=⟨some d,none,.move (.t t)⟩
abbrev LI.l (d t:Nat):LI:=⟨some d,none,.load1 (.t t)⟩
abbrev LI.f (d n t:Nat):LI:=⟨some d,none,.fieldAddr n (.t t)⟩
abbrev LI.y (d g : Nat)(o : LOp) : LI := ⟨some d, some (g, true), o⟩
abbrev LI.n (d g : Nat)(o : LOp) : LI := ⟨some d, some (g, false), o⟩
abbrev LI.my (d g t : Nat) : LI := ⟨some d, some (g, true), .move (.t t)⟩
abbrev LI.mn (d g t : Nat) : LI := ⟨some d, some (g, false), .move (.t t)⟩
abbrev LI.v (o : LOp) : LI := ⟨none, none, o⟩
abbrev LOp.w (f : Nat)(l : List Lx) : LOp := .callV (.c (.fn (.func f) [] [])) l
abbrev Lx.k (n : Int) : Lx := .c (.i n)
abbrev Lx.T : Lx := .c (.bool true)
abbrev Lx.F : Lx := .c (.bool false)
abbrev LC.q (l : List LI)(s : LC) : LC := .seq (.ops l) s
end Go.Sv
end
noncomputable section
namespace Go.Sv
open Go.RowKit (Below)
mutual
inductive Sh where
 |bool
 |u
 |b
 |i
 |k (k:IntKind)
 |str
 |sl (s:Sh)
 |st (l:ShL)
inductive ShL where
 |nil
 |cons (s:Sh) (l:ShL)
end
mutual
def Sh.n:Sh→Nat
 |.st l=>l.n
 |_=>1
def ShL.n:ShL→Nat
 |.nil=>0
 |.cons s l=>s.n+l.n
end
mutual
def Sh.T:Sh→Type
 |.bool=>Bool
 |.u=>UInt64
 |.b=>UInt8
 |.i=>{ n:Int // M9 n }
 |.k _=>Int
 |.str=>{ l:List UInt8 // l.length≤maxLen }
 |.sl s=>{ l:List s.T // l.length≤maxLen }
 |.st l=>l.T
def ShL.T:ShL→Type
 |.nil=>Unit
 |.cons s l=>s.T×l.T
end
mutual
def Sh.enc:(s:Sh)→s.T→List LV
 |.bool,x=>[.bool x]
 |.u,x=>[.u x]
 |.b,x=>[.b x]
 |.i,x=>[.i x.1]
 |.k k,x=>[.int k x]
 |.str,x=>[.str x.1]
 |.sl s,x=>[.lst (x.1.flatMap s.enc) x.1.length s.n]
 |.st l,x=>l.enc x
def ShL.enc:(l:ShL)→l.T→List LV
 |.nil,_=>[]
 |.cons s l,x=>s.enc x.1++l.enc x.2
end
mutual
def Sh.enc_length:∀(s:Sh) (x:s.T),(s.enc x).length=s.n
 |.bool,_=>rfl
 |.u,_=>rfl
 |.b,_=>rfl
 |.i,_=>rfl
 |.k _,_=>rfl
 |.str,_=>rfl
 |.sl _,_=>rfl
 |.st l,x=>by simp only[Sh.enc,Sh.n];exact ShL.enc_length l x
def ShL.enc_length:∀(l:ShL) (x:l.T),(l.enc x).length=l.n
 |.nil,_=>rfl
 |.cons s l,x=>by simp only[ShL.enc,ShL.n,Aj,Sh.enc_length s x.1,ShL.enc_length l x.2]
end
def Yc (P:Program)(f:TypeId→Option Sh)(a:Nat):List Field→Nat→Option ShL
 |[],off=>if off=a then some .nil else none
 |fd::l,off=>match f fd.type with
  |none=>none
  |some s=>if fd.offset=off∧P.cellsOf fd.type=s.n then match Yc P f a l (off+s.n) with
   |none=>none
   |some r=>some (.cons s r)
   else none
def Qb:Nat→Sh→ShL
 |0,_=>.nil
 |n+1,s=>.cons s (Qb n s)
def Pl (P:Program):Nat→TypeId→Option Sh
 |0,_=>none
 |d+1,t=>match P.underlying t with
  |some .bool=>some .bool
  |some (.int k)=>match k with
   |.u64=>some .u
   |.u8=>some .b
   |.i64=>some .i
   |k=>some (.k k)
  |some .string=>some .str
  |some (.slice e)=>match Pl P d e with
   |none=>none
   |some s=>if P.cellsOf e=s.n∧0<s.n then some (.sl s) else none
  |some (.struct a)=>match Yc P (Pl P d) (P.cellsOf t) a.toList 0 with
   |none=>none
   |some l=>some (.st l)
  |some (.array n e)=>match Pl P d e with
   |none=>none
   |some s=>if P.cellsOf e=s.n∧P.cellsOf t=n*s.n then some (.st (Qb n s)) else none
  |_=>none
def zz4 (P:Program)(d:Nat):List TypeId→Option ShL
 |[]=>some .nil
 |t::l=>match Pl P d t with
  |none=>none
  |some s=>if P.cellsOf t=s.n then match zz4 P d l with
   |none=>none
   |some r=>some (.cons s r)
   else none
def Rel.ro {W:World}{C:CM}{H:Heap}(h:Rel W C H W){L:Loc}(hL:L.b<W.heap.size){l:List AV}(af:C.le (C.ext H.next 0 L)→Iy W.heap.size (C.ext H.next 0 L) W H.next (.cells (Kd l 0 .e) l.length 0 true)) :
  Rel W (C.ext H.next 0 L) (H.push (.cells (Kd l 0 .e) l.length 0 true)) W∧C.le (C.ext H.next 0 L):=by
 have hle:C.le (C.ext H.next 0 L):=CM.le_ext _ (h.next_none 0) (.inr (Dm h.nx));refine⟨⟨by show max C.nx (H.next+1)=H.next+1;rw[h.nx];exact Nat.max_eq_right (Em _),h.low,?_,?_,?_,?_,?_⟩,hle⟩
 ·intro o v L' aa;show o<H.next+1;by_cases e:o=H.next∧v=0
  ·omega
  ·rw[CM.ext_ne _ _ e] at aa;have:=h.fresh _ _ _ aa;omega
 ·intro o v L' aa;by_cases e:o=H.next∧v=0
  ·obtain⟨rfl,rfl⟩:=e;rw[CM.ext_same] at aa;cases aa;exact hL
  ·rw[CM.ext_ne _ _ e] at aa;exact h.lt _ _ _ aa
 ·intro o v L1 o' v' L2 h1 h2 hb hB;by_cases e:o=H.next∧v=0
  ·obtain⟨rfl,rfl⟩:=e;rw[CM.ext_same] at h1;cases h1;omega
  ·by_cases e':o'=H.next∧v'=0
   ·obtain⟨rfl,rfl⟩:=e';rw[CM.ext_same] at h2;cases h2;omega
   ·rw[CM.ext_ne _ _ e] at h1;rw[CM.ext_ne _ _ e'] at h2;exact h.excl _ _ _ _ _ _ h1 h2 hb hB
 ·intro o ob ho hg;by_cases e:o=H.next
  ·subst e;rw[Heap.get_push_same] at hg;cases hg;exact af hle
  ·have ad:o<H.next:=by have:o<H.next+1:=ho;omega
   rw[Heap.get_push_ne _ _ ad] at hg;refine (h.obj _ _ ad hg).frame hle (fun v L' aa=>?_) (fun _ _ _=>rfl)
   rwa [CM.ext_ne _ _ (by omega)] at aa
 ·intro o c len ag ro ho hg v L' aa;by_cases e:o=H.next
  ·subst e;by_cases ev:v=0
   ·omega
   ·rw[CM.ext_ne _ _ (by omega)] at aa;have:=h.fresh _ _ _ aa;omega
  ·have ad:o<H.next:=by have:o<H.next+1:=ho;omega
   rw[Heap.get_push_ne _ _ ad] at hg;rw[CM.ext_ne _ _ (by omega)] at aa;exact h.top _ _ _ _ _ ad hg _ _ aa
def Nt (H:Heap):Cx:=⟨[],fun o=>o<H.next,H⟩
def Ly (H H':Heap):Prop:=H.next≤H'.next∧∀o,o<H.next→H'.get o=H.get o
def Ly.refl (H:Heap):Ly H H:=⟨Al _,fun _ _=>rfl⟩
def Ly.trans {A B C:Heap}(h:Ly A B)(k:Ly B C):Ly A C:=⟨Bq h.1 k.1,fun o ho=>by rw[k.2 o (Bh ho h.1),h.2 o ho]⟩
def Ly.le {H H':Heap}(h:Ly H H'):CxLe (Nt H) (Nt H') :=
 ⟨fun p k x e=>by simp[Nt] at e,fun o ho=>⟨Bh ho h.1,h.2 o ho⟩⟩
section imp
variable {HH : Type} {enc : TypeId × Value → HH} {P : Program} {W : World}
def Got (W:World)(C:CM)(H:Heap)(cs:List Value)(s:Nat)(T:Type)(e:T→List LV):Prop :=
 ∃d H' as,∃y:T,C.le d∧Rel W d H' W∧Ly H H'∧VRs d as cs∧(∀a∈as,a.one=true)∧ARs (Nt H') (e y) as∧as.length=s
def nh {C:CM}{H:Heap}(d:Rel W C H W){v:Value}{T:Type}{e:T→List LV}(y:T)(a:AV)(l:LV)(he:e y=[l])(hv:VR C a v)(f:a.one=true)(g:AR (Nt H) l a):Got W C H [v] 1 T e :=
 ⟨C,H,[a],y,CM.le_refl C,d,.refl H,.cons hv .nil,by simpa using f,by rw[he];exact .cons g .nil,rfl⟩
def zkm {a:List MemPlace}(d:W.noneFrozen a){b off n:Nat}(h:∀x∈MemPlace.row ⟨b,off,none⟩ n,x∈a){i:Nat}(hi:i<n):W.frozen? ⟨b,off+i,none⟩=false :=
 d b (off+i) (h _ (Ew.2 ⟨i,Cr.2 hi,rfl⟩))
def got_cells:∀(J:Nat) (d:Nat) (t:TypeId) (s:Sh) (cs:List Value) (x:DataW HH×List MemPlace) (C:CM) (H:Heap),Pl P d t=some s→DataW.trod enc P W 0 (fun _=>true) true J t cs=some x→W.noneFrozen x.2→Rel W C H W →
  Got W C H cs s.n s.T s.enc:=by
 intro J
 induction J with
 |zero=>intro d t s cs x C H _ h;simp[DataW.trod] at h
 |succ J ih =>
  intro d t s cs x C H g h S A;cases d with
  |zero=>cases g
  |succ d =>
   simp only[Pl] at g;split at g
   ·rename_i hu;cases g;obtain⟨b,rfl,_⟩:=DataW.trod_bool hu h;exact nh A (T:=Bool) b (.bool b) (.bool b) rfl (.bool b) rfl (.bool b)
   ·rename_i k hu;obtain⟨n,rfl,_,hw⟩:=DataW.trod_int hu h;split at g
    ·cases g;have hb:=bounds_u64 hw;refine nh A (T:=UInt64) (UInt64.ofNat n.toNat) (.int .u64 n) (.u (UInt64.ofNat n.toNat)) rfl (.int _ _) rfl (.u' ?_);rw[Bo];simp only[A9];omega
    ·cases g;have hb:=bounds_u8 hw;refine nh A (T:=UInt8) (UInt8.ofNat n.toNat) (.int .u8 n) (.b (UInt8.ofNat n.toNat)) rfl (.int _ _) rfl (.b' ?_);rw[UInt8.toNat_ofNat'];simp only[A9];omega
    ·cases g;have hb:=bounds_i64 hw;exact nh A (T:={ n:Int // M9 n }) ⟨n,by unfold M9;omega⟩ (.int .i64 n) (.i n) rfl (.int _ _) rfl (.i n)
    ·cases g;exact nh A (T:=Int) n (.int k n) (.int k n) rfl (.int _ _) rfl (.int k n)
   ·rename_i hu;cases g;obtain⟨b,rfl,_,hm⟩:=DataW.trod_string hu h;exact nh A (T:={ l:List UInt8 // l.length≤maxLen }) ⟨b.data.toList,by simpa using hm⟩ (.str b.data.toList.length (Hx b.data.toList)) (.str b.data.toList) rfl (.str rfl rfl) rfl (.str _)
   ·rename_i e hu;split at g
    ·cases g
    ·rename_i f aa;by_cases N:P.cellsOf e=f.n∧0<f.n
     ·rw[Ag N] at g;cases g;obtain⟨ad,K⟩:=N;rcases DataW.trod_slice hu h with ⟨rfl,_⟩|⟨a,len,cap,F,rest,n,hn,rfl,hx,_,hle,aO,hlen,X,ap,_⟩
      ·exact nh A (T:={ l:List f.T // l.length≤maxLen }) ⟨[],by simp⟩ .nilSl (.lst [] 0 f.n) rfl .nilSl rfl .lstNil
      ·cases hn;by_cases h0:len=0
       ·subst h0;exact nh A (T:={ l:List f.T // l.length≤maxLen }) ⟨[],by simp⟩ .emp (.lst [] 0 f.n) rfl .emp rfl .lstEmp
       ·
        obtain⟨b,off,spot⟩:=a;have G:∀i,i<cap→∃B,W.cells? 0 ((⟨b,off,spot⟩:Addr).add (i*P.cellsOf e)) (P.cellsOf e)=some B:=by
         intro i hi;by_cases aA:i<len
         ·have:=X i aA;rw[Ai (by omega)] at this;cases Y:W.cells? 0 ((⟨b,off,spot⟩:Addr).add (i*P.cellsOf e)) (P.cellsOf e) with
          |none=>rw[Y] at this;cases this
          |some B=>exact⟨B,rfl⟩
         ·obtain⟨aQ,aB⟩:=ap rfl;have:=aB (i - len) (by omega);rw[show len+(i - len)=i from by omega,Ai (by omega)] at this;cases Y:W.cells? 0 ((⟨b,off,spot⟩:Addr).add (i*P.cellsOf e)) (P.cellsOf e) with
          |none=>rw[Y] at this;cases this
          |some B=>exact⟨B,rfl⟩
        have af:spot=none:=by
         obtain⟨B,he⟩:=G 0 (by omega);obtain⟨_,D,p⟩:=World.cells?_some he;have:=p 0 (by omega);rw[Ai (by omega)] at this;simpa [Addr.add] using World.cell?_spot this
        subst af;have M:∀i j,i<cap→j<f.n→∃v,W.cell? ⟨b,off+(i*f.n+j),none⟩=some v:=by
         intro i j hi U;obtain⟨B,he⟩:=G i hi;obtain⟨_,D,p⟩:=World.cells?_some he;have:=p j (by omega);rw[Ai (by omega)] at this;rw[ad] at this;rw[WideShapes.add_plain,WideShapes.add_plain] at this;rw[←Cu];exact⟨_,this⟩
        obtain⟨v0,Z⟩:=M 0 0 (by omega) K;obtain⟨vs,ty,lo,hi,w⟩:∃vs ty lo hi,W.heap[b]?=some (.cells vs ty (lo,hi)):=by
         unfold World.cell? at Z;dsimp only at Z;split at Z
         ·rename_i vs ty fz w;exact⟨vs,ty,fz.1,fz.2,w⟩
         ·cases Z
        have aC:∀q,q<cap*f.n→∃v,vs[off+q]?=some v:=by
         intro q Y;obtain⟨v,hv⟩:=M (q/f.n) (q%f.n) (by rw[Nat.div_lt_iff_lt_mul K];exact Y) (Cm _ K);have:q/f.n*f.n+q%f.n=q:=by rw[B2];exact Nat.div_add_mod q f.n
         rw[this,zhp w] at hv;exact⟨v,hv⟩
        have aq:off+cap*f.n≤vs.size:=by
         have aD:0<cap*f.n:=Nat.mul_pos (by omega) K;obtain⟨v,hv⟩:=aC (cap*f.n - 1) (by omega);have:=(Array.getElem?_eq_some_iff.1 hv).1;omega
        have ar:∀x',x'∈MemPlace.row ⟨b,off,none⟩ (cap*f.n)→x'∈x.2:=by
         intro x' ag;rw[hx];have:(F.length+rest.length)*P.cellsOf e=cap*f.n:=by rw[hlen,(ap rfl).1,ad];congr 1;omega
         rw[this];exact Dp _ ag
        have loop:∀m,m≤len→∃C' H' as,∃V:List f.T,C.le C'∧Rel W C' H' W∧Ly H H'∧(∀a∈as,a.one=true)∧ARs (Nt H') (V.flatMap f.enc) as∧V.length=m∧as.length=m*f.n∧∀q,q<m*f.n→∃a v,as[q]?=some a∧vs[off+q]?=some v∧VR C' a v:=by
         intro m
         induction m with
         |zero=>intro _;exact⟨C,H,[],[],CM.le_refl C,A,.refl H,by simp,.nil,rfl,by simp,fun q Y=>by omega⟩
         |succ m aE =>
          intro hm;obtain⟨C1,H1,O,aF,a1,a2,a3,a4,a5,a6,a7,a8⟩:=aE (by omega);obtain⟨B,he⟩:=G m (by omega);have aw:=X m (by omega);rw[he,Ai (by omega)] at aw;obtain⟨_,D,p⟩:=World.cells?_some he;have aG : W.noneFrozen (F[m]'(by omega)).2 := fun b' E Q => S b' E (by
           rw[hx];exact Ba _ (List.mem_flatMap.2 ⟨F[m]'(by omega), by simp, Q⟩))
          obtain⟨C2,H2,R,y,b1,b2,b3,b4,b5,b6,b7⟩:=ih d e f B _ C1 H1 aa aw aG a2;refine⟨C2,H2,O++R,aF++[y],CM.le_trans a1 b1,b2,a3.trans b3,?_,?_,by simp[a6],?_,?_⟩
          ·intro z S;rcases Az.1 S with h|h
           ·exact a4 z h
           ·exact b5 z h
          ·rw[List.flatMap_append];refine (a5.mono b3.le).append ?_;simpa using b6
          ·rw[Aj,a7,b7,Bb,Cn]
          ·intro q Y;by_cases aH:q<m*f.n
           ·obtain⟨a,v,c1,c2,c3⟩:=a8 q aH;exact⟨a,v,by rw[Aq (by omega)];exact c1,c2,c3.mono b1⟩
           ·have aR:q - m*f.n<f.n:=by rw[Bb,Cn] at Y;omega
            obtain⟨a,v,c1,c2,c3⟩:=b4.get' (i:=q - m*f.n) (by omega);refine⟨a,v,by rw[Au (by omega),a7];exact c1,?_,c3⟩;have:=p (q - m*f.n) (by omega);rw[ad,WideShapes.add_plain,WideShapes.add_plain,zhp w,c2] at this;rw[←this]
            congr 1
            omega
        obtain⟨C1,H1,as,V,a1,a2,a3,a4,a5,a6,a7,a8⟩:=loop len (Al _);have aI:b<W.heap.size:=by
         have:=(Array.getElem?_eq_some_iff.1 w).1;exact this
        have aP:len*f.n≤cap*f.n:=At _ hle;have aJ:∀q,off≤q→q<off+cap*f.n→¬(lo≤q∧q<hi):=by
         intro q h1 h2;have:=zkm S (fun x' ag=>ar x' ag) (i:=q - off) (n:=cap*f.n) (by omega);rw[show off+(q - off)=q from by omega] at this;unfold World.frozen? at this;dsimp only at this;rw[w] at this;simp at this;omega
        obtain⟨c1,c2⟩:=a2.ro (L:=⟨b,off,len*f.n,off+cap*f.n⟩) aI (l:=as) (fun ax L hL=>by
         rw[CM.ext_same] at hL;cases hL;refine⟨by rw[a7],fun e=>(by cases e),by show off+as.length≤off+cap*f.n;omega,vs,ty,lo,hi,w,aq,aJ,?_⟩;intro q Y;rw[get_ofList,Ag (by omega)];obtain⟨a,v,d1,d2,d3⟩:=a8 q (by omega);exact⟨a,by simpa using d1,a4 a (A7 d1),v,d2,d3.mono ax⟩)
        have hg:Ly H1 (H1.push (.cells (Kd as 0 .e) as.length 0 true)):=⟨Em _,fun o ho=>Heap.get_push_ne _ _ ho⟩;refine⟨_,_,[.sl H1.next 0 0 len f.n none],(⟨V,by omega⟩:{ l:List f.T // l.length≤maxLen }),CM.le_trans a1 c2,c1,a3.trans hg,.cons ?_ .nil,by simp[AV.one],?_,rfl⟩
        ·exact VR.sl (L:=⟨b,off,len*f.n,off+cap*f.n⟩) (i:=0) (CM.ext_same _ _ _ _) (by dsimp only;omega) (by dsimp only;omega) hle (fun r e=>by cases e) (fun _=>rfl)
        ·show ARs _ [LV.lst (V.flatMap f.enc) V.length f.n] _;rw[a6];refine .cons (.lst (Bx H1.next) (fun r e=>by cases e) ?_ ?_ (a5.mono hg.le)) .nil
         ·have:=a5.length;omega
         ·have hr:=Qn (H:=H1.push (.cells (Kd as 0 .e) as.length 0 true)) (i:=0) (n:=len*f.n) (Heap.get_push_same _ _) (z6f as) (Al _) (by omega);rw[Db,Aw (by omega)] at hr;exact hr
     ·rw[Ab N] at g;cases g
   ·rename_i fs hu;split at g
    ·cases g
    ·rename_i l D;cases g;obtain⟨xs,n,hn,hx,ah,ay,aK⟩:=DataW.trod_struct hu h;cases hn;have key:∀(fl:List Field) (j off:Nat) (l:ShL) (C:CM) (H:Heap),fs.toList.drop j=fl→Yc P (Pl P d) (P.cellsOf t) fl off=some l→Rel W C H W→Got W C H (cs.drop off) l.n l.T l.enc:=by
      intro fl
      induction fl with
      |nil =>
       intro j off l C H U D A;simp only[Yc] at D;split at D
       ·rename_i he;cases D;refine⟨C,H,[],(():Unit),CM.le_refl C,A,.refl H,?_,by simp,.nil,rfl⟩;rw[he,←ah,List.drop_length];exact .nil
       ·cases D
      |cons fd fl aL =>
       intro j off l C H U D A;simp only[Yc] at D;split at D
       ·cases D
       ·rename_i s g;by_cases N:fd.offset=off∧P.cellsOf fd.type=s.n
        ·rw[Ag N] at D;split at D
         ·cases D
         ·rename_i r hr;cases D;have aj:j<fs.toList.length:=by
           rcases C7 j fs.toList.length with h|h
           ·exact h
           ·rw[List.drop_eq_nil_of_le h] at U;cases U
          have aM:fs[j]?=some fd:=by
           rw[B9 aj] at U;injection U with h1 h2
           rw[←h1];simp
          have I:=aK j fd aM;rw[N.1,N.2] at I;have ao:j<xs.length:=by rw[ay];simpa using aj
          rw[Ai ao] at I;obtain⟨C1,H1,O,y,a1,a2,a3,a4,a5,a6,a7⟩:=ih d fd.type s _ _ C H g I (fun b' E Q=>S b' E (by rw[hx];exact List.mem_flatMap.2 ⟨_,by simp,Q⟩)) A;obtain⟨C2,H2,R,V,b1,b2,b3,b4,b5,b6,b7⟩:=aL (j+1) (off+s.n) r C1 H1 (by rw[B9 aj] at U;injection U) hr a2;refine⟨C2,H2,O++R,(y,V),CM.le_trans a1 b1,b2,a3.trans b3,?_,?_,(a6.mono b3.le).append b6,by rw[Aj,a7,b7];rfl⟩
          ·have:=(a4.mono b1).append b4
           rwa [←List.drop_drop,List.take_append_drop] at this
          ·intro z S;rcases Az.1 S with h|h
           ·exact a5 z h
           ·exact b5 z h
        ·rw[Ab N] at D;cases D
     have:=key fs.toList 0 0 l C H (by simp) D A;rw[Db] at this;exact this
   ·rename_i n e hu;split at g
    ·cases g
    ·rename_i f aa;by_cases N:P.cellsOf e=f.n∧P.cellsOf t=n*f.n
     case neg=>rw[Ab N] at g;cases g
     rw[Ag N] at g;cases g;obtain⟨xs,m,hm,hx,ah,ay,X⟩:=DataW.trod_array hu h;cases hm;have key:∀(k j:Nat) (C:CM) (H:Heap),j+k=n→Rel W C H W→Got W C H (cs.drop (j*f.n)) (Qb k f).n (Qb k f).T (Qb k f).enc:=by
      intro k
      induction k with
      |zero =>
       intro j C H U A;refine⟨C,H,[],(():Unit),CM.le_refl C,A,.refl H,?_,by simp,.nil,rfl⟩;rw[show j=n by omega,←N.2,←ah,List.drop_length];exact .nil
      |succ k aN =>
       intro j C H U A;have I:=X j (by omega);rw[N.1] at I;have ao:j<xs.length:=by omega
       rw[Ai ao] at I;obtain⟨C1,H1,O,y,a1,a2,a3,a4,a5,a6,a7⟩:=ih d e f _ _ C H aa I (fun b' E Q=>S b' E (by rw[hx];exact List.mem_flatMap.2 ⟨_,by simp,Q⟩)) A;obtain⟨C2,H2,R,V,b1,b2,b3,b4,b5,b6,b7⟩:=aN (j+1) C1 H1 (by omega) a2;refine⟨C2,H2,O++R,(y,V),CM.le_trans a1 b1,b2,a3.trans b3,?_,?_,(a6.mono b3.le).append b6,by rw[Aj,a7,b7];rfl⟩
       ·have:=(a4.mono b1).append b4
        rwa [Ec,←List.drop_drop,List.take_append_drop] at this
       ·intro z S;rcases Az.1 S with h|h
        ·exact a5 z h
        ·exact b5 z h
     have:=key n 0 C H (by omega) A;rw[Dg,Db] at this;exact this
   ·cases g
end imp
end Go.Sv
end
namespace Go.Sv
open Go.RowKit Go.ChangeShapes Go.WideShapes Go.ChangeAt
def Sh.arg:(s:Sh)→s.T→LV
 |.st l,x=>.agg (l.enc x)
 |.bool,x=>.bool x
 |.u,x=>.u x
 |.b,x=>.b x
 |.i,x=>.i x.1
 |.k kk,x=>.int kk x
 |.str,x=>.str x.1
 |.sl s,x=>.lst (x.1.flatMap s.enc) x.1.length s.n
def ShL.args:(l:ShL)→l.T→List LV
 |.nil,_=>[]
 |.cons s l,x=>s.arg x.1::l.args x.2
section law
variable {H : Type} {enc : TypeId × Value → H} {P : Program}
def ztf {W:World}{d base:Nat}:∀{D:List TypeId} {l:ShL} {args:List Value} {I:List (DataW H)} {E:List MemPlace} {C:CM} {Hp:Heap},zz4 P d D=some l→DataW.TrodAll enc P W 0 (fun _=>true) true D args I E→W.noneFrozen E →
  (∀(j:Nat) (t:TypeId) (v:Value),D[j]?=some t→args[j]?=some v→Value.okWide P W .any base t v)→Rel W C Hp W→∃J H' as,∃y:l.T,C.le J∧Rel W J H' W∧Ly Hp H'∧VRs J as args∧ARs (Nt H') (l.args y) as
 |[],l,args,I,E,C,Hp,h,K,_,_,M=>by
  cases h;obtain⟨rfl,_,_⟩:=trodAll_nil K;exact⟨C,Hp,[],(():Unit),CM.le_refl C,M,.refl Hp,.nil,.nil⟩
 |t::D,l,args,I,E,C,Hp,h,K,S,hv,M=>by
  simp only[zz4] at h;split at h
  ·cases h
  ·rename_i s f;by_cases T:P.cellsOf t=s.n
   ·rw[Ag T] at h;split at h
    ·cases h
    ·rename_i r Z;cases h;obtain⟨v,vs,dd,aa,p,q,rfl,rfl,rfl,⟨x,hd⟩,w⟩:=trodAll_cons K;obtain⟨N,H1,z,y,a1,a2,a3,F,U,G,a7⟩:=got_cells x d t s _ _ C Hp f hd (fun b o O=>S b o (Dp _ O)) M;obtain⟨C2,H2,Q,ys,V,b2,X,b4,b5⟩:=ztf (C:=N) (Hp:=H1) Z w (fun b o O=>S b o (Ba _ O)) (fun j t' v' A Y=>hv (j+1) t' v' (by simpa using A) (by simpa using Y)) a2;have g:=hv 0 t v rfl rfl;have one:∃a,VR N a v∧AR (Nt H1) (s.arg y) a:=by
      cases d with
      |zero=>cases f
      |succ d =>
       have single:∀{L:LV},s.enc y=[L]→s.arg y=L→v.cells.toList=[v]→∃a,VR N a v∧AR (Nt H1) (s.arg y) a:=by
        intro L e1 e2 e3;rw[e3] at F;rw[e1] at G;cases F with
        |cons A Y =>
         cases G with
         |cons h3 h4=>exact⟨_,A,by rw[e2];exact h3⟩
       simp only[Pl] at f;split at f
       ·rename_i hu;cases f;obtain⟨b,rfl⟩:=okWide_bool hu g;exact single rfl rfl rfl
       ·rename_i k hu;obtain⟨n,rfl⟩:=okWide_int hu g;split at f<;>cases f<;>exact single rfl rfl rfl
       ·rename_i hu;cases f;obtain⟨b,rfl⟩:=okWide_string hu g;exact single rfl rfl rfl
       ·rename_i e hu;obtain⟨a,len,cap,rfl⟩:=okWide_slice hu g;split at f
        ·cases f
        ·rename_i B R;by_cases m:P.cellsOf e=B.n∧0<B.n
         ·rw[Ag m] at f;cases f;exact single rfl rfl rfl
         ·rw[Ab m] at f;cases f
       ·rename_i fs hu;obtain⟨cs,rfl,_⟩:=okWide_struct hu g;split at f
        ·cases f
        ·rename_i l hl;cases f;exact⟨.agg z,.agg F U,.agg G⟩
       ·rename_i n e hu;obtain⟨cs,rfl⟩:∃cs,v=.agg cs:=by
         simp only[Value.okWide,hu] at g;obtain⟨cs,A,_⟩:=g;exact⟨cs,A⟩
        split at f
        ·cases f
        ·rename_i B R;by_cases m:P.cellsOf e=B.n∧P.cellsOf t=n*B.n
         ·rw[Ag m] at f;cases f;exact⟨.agg z,.agg F U,.agg G⟩
         ·rw[Ab m] at f;cases f
       ·cases f
     obtain⟨a,o1,o2⟩:=one;exact⟨C2,H2,a::Q,(y,ys),CM.le_trans a1 V,b2,a3.trans X,.cons (o1.mono V) b4,.cons (o2.mono X.le) b5⟩
   ·rw[Ab T] at h;cases h
def jo {f d base:Nat}{a:List TypeId}{l:ShL}(hm:P.follows .mixedOrders=true)(g:zz4 P d a=some l)(h:∀y:l.T,Ju P (.fn f) (l.args y) [] fun v _=>v=.bool true){W:World}{args:Array Value}{r:List (DataW H)}{q:List MemPlace}
  (s:DataW.TrodAll enc P W 0 (fun _=>true) true a args.toList r q) (w:W.noneFrozen q) (hv:∀(j:Nat) (t:TypeId) (v:Value),a[j]?=some t→args.toList[j]?=some v→Value.okWide P W .any base t v) :
  Calls P f args W fun e w'=>e=.returned (.bool true)∧Below W.heap.size W w':=by
 obtain⟨C,Hp,as,y,_,x,_,z,p⟩:=ztf g s w hv (Rel.start W);obtain⟨m,v1,H',A,c',v,G',K,L,M,B,D⟩:=(h y).2 (Nt Hp) (.fn f) as (HSim.empty (fun o ho=>ho)) rfl p;subst D;cases B;intro cs;obtain⟨N,w',O,fr,Q,E,F,G,I,J⟩:=zim hm (Yx P) m W _ _ W (.fn f) as _ _ _ x z A cs;cases F;exact⟨.returned (.bool true),w',fr,⟨rfl,E.low⟩,G,I,J⟩
def zq5 (r:laidOutB P=true){W s:World}(w:Below W.heap.size W s){sp:Nat→Bool}:∀{j:List TypeId} {vs:List Value} {m:List (DataW H)} {l:List MemPlace},(∀t∈j,P.readableRec t=true∧t<P.types.size)→DataW.TrodAll enc P W 0 (fun _=>true) true j vs m l →
  (∀x∈l,x.block<W.heap.size)→(∀x∈l,sp x.block=true)→DataW.TrodAll enc P s 0 sp true j vs m l
 |[],[],[],_,_,h,_,_=>h
 |t::j,v::vs,d::m,_,o,⟨p,q,y,z,e⟩,f,g=>by
  subst e;exact⟨p,q,WideElems.Trod_stays r (o t (by simp)).1 (o t (by simp)).2 y (fun x a=>w.same (f x (Dp _ a))) (fun x a=>g x (Dp _ a)),
   zq5 r w (fun A B=>o A (by simp[B])) z (fun x a=>f x (Ba _ a)) (fun x a=>g x (Ba _ a)),rfl⟩
 |[],[],_::_,_,_,h,_,_=>h.elim
 |[],_::_,_,_,_,h,_,_=>h.elim
 |_::_,[],_,_,_,h,_,_=>h.elim
 |_::_,_::_,[],_,_,h,_,_=>h.elim
def Wy {f:Func}{s:ChangeSpec}{apart fresh handsOn again:Bool}{W z:World}{args:Array Value}{m gs:List (DataW H)}{before:List MemPlace}{A:TypeId}(B:DataW.Whole enc P f.params.toList s.vars apart W args.toList m gs before)(a:s.vars=[])
  (h:∀j:List (DataW H),j.length=f.params.toList.length→s.fn H j={ results:=[.lit (.bool true)],args:=j }) (C:Below W.heap.size W z) (F:laidOutB P=true) (G:∀t∈f.params.toList,P.readableRec t=true∧t<P.types.size)
  (g:f.resultTypes=#[A]) (d:P.underlying A=some .bool):s.post enc P f apart fresh handsOn again W args (.bool true) z:=by
 have o:=B;obtain⟨p,q,D,E,rfl,I,J⟩:=B;rw[a] at E;obtain⟨rfl,rfl⟩:=trodVars_none E;have hlen:m.length=f.params.toList.length:=(trodAll_length D).2;have K:=h m hlen;have l:s.fn H (m++[])={ results:=[.lit (.bool true)],args:=m }:=by rw[Bz];exact K
 have r:=o.lt;refine zvl (pa:=p) (pv:=[]) o (fun b sp hd=>?_) (fun sp w=>?_) (fun sp _=>?_) rfl C ?_
 ·rw[l,g];exact trodAll_cons_mk (shut_bool d _) trodAll_mk0
 ·rw[l];exact zq5 F C G D (fun x y=>r x (by simp[y])) (fun x y=>w x (by simp[y]))
 ·rw[l,a];rfl
 ·exact ok_one g rfl (okWide_bool_mk d _)
end law
end Go.Sv
namespace Go.Sv
def Hw (G:Ff)(v d:LV):Prop:=match v with
 |.tup l=>∃r,d=.tup r∧bors G l r
 |v=>bor G v d
def Lt (P:Program)(f:Nat)(args:List LV)(g:LV):Prop :=
 P9 P (.fn f)∧g.dat=true∧∀(Fz:Nat→Prop) (H:Heap) (a:List AV),(∀o,Fz o→o<H.next)→ARs ⟨[],Fz,H⟩ args a →
  ∃(m:Nat) (v1:AV) (d:Nat→Prop) (H':Heap),K8 P (OL P) m (.fn f) a H=.ok v1 H'∧H.next≤H'.next∧(∀o,Fz o→d o)∧(∀o,d o→o<H'.next∧(Fz o∨H.next≤o))∧(∀o,o<H.next→H'.get o=H.get o)∧AR ⟨[],d,H'⟩ g v1
section calls
variable {P : Program}
def ep {c:Cx}{G:Ff}(j:HSim c G)(v d:LV)(a:AV)(g:Hw G v d)(h:AR c v a):AR ⟨[],fun o=>c.Fz o∨Ij c G o,c.H⟩ d a:=by
 unfold Hw at g;split at g
 ·obtain⟨r,rfl,g⟩:=g;cases h with
  |tup h=>exact .tup (bors_ok j _ _ _ g h)
 ·exact bor_ok j _ _ _ g h
def Lt.mk {f:Nat}{args:List LV}{v0:LV}(hd:v0.dat=true)(h:Ju P (.fn f) args [] fun v G=>Hw G v v0):Lt P f args v0:=by
 refine⟨h.1,hd,fun Fz H aa af ha=>?_⟩;obtain⟨m,v1,H',q1,c1,v,G,rfl,q3,q4,q5,q6⟩:=h.2 ⟨[],Fz,H⟩ (.fn f) aa (.empty af) rfl ha;have ad:∀o,¬Ij ⟨[],Fz,H⟩ [] o:=fun o ⟨p,_,_,_,e,_⟩=>by simp at e
 refine⟨m,v1,_,c1.H,q1,q4.nx,fun o ho=>.inl (q4.le.fz o ho).1,fun o ho=>⟨ho.elim (q3.fz o) (q3.lt o),?_⟩,fun o ho=>q4.frame o ho (ad o),ep q3 v v0 v1 q6 q5⟩;rcases ho with ho|ho
 ·rcases q4.fznew o ho with h|h|h
  ·exact .inl h
  ·exact absurd h (ad o)
  ·exact .inr h
 ·rcases q4.new o ho with h|h
  ·exact absurd h (ad o)
  ·exact .inr h
def zym {c:Cx}{G:Ff}(l:HSim c G){d:Nat→Prop}{H':Heap}(z:c.H.next≤H'.next)(B:∀o,c.Fz o→d o)(x:∀o,d o→o<H'.next∧(c.Fz o∨c.H.next≤o))(s:∀o,o<c.H.next→H'.get o=c.H.get o) :
  HSim ⟨c.hd,d,H'⟩ G∧Step c G ⟨c.hd,d,H'⟩ G:=by
 have hle:CxLe c ⟨c.hd,d,H'⟩:=⟨fun p k h e=>⟨k,h,e,Al _,fun _=>rfl,fun _=>rfl⟩,fun o ho=>⟨B o ho,s o (l.fz o ho)⟩⟩;have a:∀o,Ij ⟨c.hd,d,H'⟩ G o→Ij c G o:=fun o ⟨p,ob,k,h,j,g,m,r⟩=>⟨p,ob,k,h,j,g,m,r⟩
 refine⟨⟨l.len,fun o ho=>(x o ho).1,fun o ho=>Bh (l.lt o (a o ho)) z,fun o ho C=>?_,fun p ob k h j g=>?_,fun p q ob ob' k h k' E o j g m r y A F H=>l.excl p q ob ob' k h k' E o j g m r y A F H⟩,?_⟩
 ·rcases (x o C).2 with h|h
  ·exact l.sep o (a o ho) h
  ·have:=l.lt o (a o ho);omega
 ·by_cases w:ob.live=true
  ·exact (l.obj p ob k h j g).mono hle (fun o ho=>s o (l.lt o ⟨p,ob,k,h,j,w,g,ho⟩))
  ·cases ob<;>first|exact absurd rfl w|trivial
 ·refine⟨hle,z,fun o ho _=>s o ho,fun o ho=>.inl (a o ho),fun o ho=>(x o ho).2.elim .inl (fun h=>.inr (.inr h)),fun p ob ob' j g=>?_,fun p ob ob' k h o j g m r y A=>?_⟩
  ·rw[j] at g;cases g;exact Al _
  ·rw[j] at g;cases g;have w:ob.live=true:=by cases ob<;>first|rfl|cases y
   exact⟨rfl,s o (l.lt o ⟨p,ob,k,h,j,w,m,r⟩),rfl⟩
def Mq {f:Nat}{args:List LV}{l:LV}{G:Ff}{K:LV→Ff→Prop}(q:Lt P f args l)(r:dats args=true)(k:K l G):Ju P (.fn f) args G K:=by
 obtain⟨s,hd,h⟩:=q;refine⟨s,fun c t1 a p j w=>?_⟩;cases t1 with
 |yield o=>exact j.elim
 |fn g =>
  obtain rfl:f=g:=j;obtain⟨m,v1,d,H',x,y,z,A,B,C⟩:=h c.Fz c.H a p.fz (ARs.dat (c:=c) (c':=⟨[],c.Fz,c.H⟩) (fun o ho=>⟨ho,rfl⟩) args a r w);obtain⟨E,F⟩:=zym p y z A B;exact⟨m,v1,H',x,⟨c.hd,d,H'⟩,l,G,rfl,E,F,AR.dat (c:=⟨[],d,H'⟩) (c':=⟨c.hd,d,H'⟩) (fun o ho=>⟨ho,rfl⟩) l v1 hd C,k⟩
mutual
def LV.flat:LV→Bool
 |.bool _ |.u _ |.b _ |.i _ |.int _ _ |.str _ |.nilPtr |.nilSl |.nilMap |.nilFn |.nilIf=>true
 |.agg l=>flats l
 |.tup l=>flats l
 |_=>false
def flats:List LV→Bool
 |[]=>true
 |v::l=>v.flat&&flats l
end
mutual
def AR.flat {c c':Cx}(v:LV)(a:AV)(hd:v.flat=true)(h:AR c v a):AR c' v a:=by
 cases v with
 |agg l =>
  simp only[LV.flat] at hd;cases h with
  |agg h=>exact .agg (ARs.flat l _ hd h)
 |tup l =>
  simp only[LV.flat] at hd;cases h with
  |tup h=>exact .tup (ARs.flat l _ hd h)
 |_=>first|(simp only[LV.flat] at hd;cases hd;done)|(cases h;constructor)
termination_by SizeOf.sizeOf v
def ARs.flat {c c':Cx}(l:List LV)(r:List AV)(hd:flats l=true)(h:ARs c l r):ARs c' l r:=by
 cases l with
 |nil=>cases h;exact .nil
 |cons v l =>
  simp only[flats,Ac] at hd;cases h with
  |cons e es=>exact .cons (AR.flat v _ hd.1 e) (ARs.flat l _ hd.2 es)
termination_by SizeOf.sizeOf l
end
end calls
def zsh {P:Program}{f:Nat}{G:Ff}{K:LV→Ff→Prop}(h:P9 P (.fn f))(j:zd P f=true)(l:z9t P f)(k:K (.bool true) G):Ju P (.fn f) [] G K:=by
 refine⟨h,fun c t1 d m a p=>?_⟩;cases t1 with
 |yield o=>exact a.elim
 |fn g =>
  obtain rfl:f=g:=a;cases p;refine⟨1,.bool true,c.H,?_,c,.bool true,G,rfl,m,.refl c G,.bool true,k⟩;unfold K8;dsimp only;rw[xd j l]
section cuts
variable {P : Program} {f n : Nat} {ro : Option Nat} {ρ : Fi} {D : List Nat} {G : Ff} {Q : Ja}
def zw2 {b c:LC}:Qw P f n ro (.seq b c) Q=Qw P f n ro b (Qw P f n ro c Q):=by
 funext x ρ D G
 cases x<;>rfl
def zf2 {a b c:LC}:wp P f n ro (.seq a (.seq b c)) ρ D G Q=wp P f n ro (.seq (.seq a b) c) ρ D G Q:=by
 rw[wp_seq,wp_seq,wp_seq,zw2]
def Q4 {a b:LC}(Φ:Fi→List Nat→Ff→Prop)(j:∀h:Fi→List Nat→Ff→Prop,(∀(d:Fi) (g:List Nat) (G':Ff),Φ d g G'→h d g G')→wp P f n ro a ρ D G (zu h Q))
  (l:∀(d:Fi) (g:List Nat) (G':Ff),Φ d g G'→wp P f n ro b d g G' Q):wp P f n ro (.seq a b) ρ D G Q:=by
 rw[wp_seq];exact j (fun d g G'=>wp P f n ro b d g G' Q) l
end cuts
attribute [simp] Hw LV.flat flats
end Go.Sv
namespace Go.Sv
def jz (b:Nat)(G:Ff)(v:LV)(esz n:Nat)(l:List LV):Prop :=
 (v=.nilSl∧n=0∧l=[])∨∃(p k:Nat) (R:List LV) (m st:Nat),b≤p∧G[p]?=some (.dyn R m esz k st)∧R.length=m*esz∧n≤m∧l=R.take (n*esz)∧((v=.dy p k∧n=m)∨v=.vw p k 0 n)
section stk
variable {b : Nat} {G G' : Ff} {v : LV} {esz n : Nat} {l x : List LV}
def jz.length (h:jz b G v esz n l):l.length=n*esz:=by
 rcases h with ⟨_,rfl,rfl⟩|⟨p,k,R,m,st,_,_,h2,h3,rfl,_⟩
 ·simp
 ·have:=At esz h3;rw[Ct];omega
def jz.lenL (h:jz b G v esz n l){K:Nat→Prop}(k:K n):lenL G v K:=by
 rcases h with ⟨rfl,rfl,_⟩|⟨p,aa,R,m,st,_,h1,_,_,_,⟨rfl,rfl⟩|rfl⟩
 ·exact k
 ·rw[lenL_dy,h1];exact⟨rfl,k⟩
 ·rw[lenL_vw,h1];exact⟨rfl,k⟩
def jz.ix (h:jz b G v esz n l){i:Int}(h0:0≤i)(hi:i<n){K:LV→Prop}
  (k:∀(p aa:Nat) (R:List LV) (m st:Nat),b≤p→G[p]?=some (.dyn R m esz aa st)→(∀j,j<n*esz→R[j]?=l[j]?)→n*esz≤R.length→K (.dptr p aa (i.toNat*esz))):U9 G esz v i K:=by
 rcases h with ⟨rfl,rfl,rfl⟩|⟨p,aa,R,m',st,h1,h2,h3,h4,rfl,⟨rfl,rfl⟩|rfl⟩
 ·omega
 ·rw[zxu,h2];exact⟨rfl,rfl,h0,hi,k _ _ _ _ _ h1 h2 (fun j hj=>by rw[Ci hj]) (by omega)⟩
 ·rw[zz2,h2];have:=At esz h4;refine⟨rfl,rfl,h0,hi,?_⟩;rw[Be];exact k _ _ _ _ _ h1 h2 (fun j hj=>by rw[Ci hj]) (by omega)
def Rw (b:Nat)(G:Ff)(v:LV)(esz n:Nat)(l:List LV):Prop :=
 (v=.nilSl∧n=0∧l=[])∨∃(p k st:Nat),b≤p∧v=.dy p k∧G[p]?=some (.dyn l n esz k st)∧l.length=n*esz
def Rw.nil:Rw b G .nilSl esz 0 []:=.inl ⟨rfl,rfl,rfl⟩
def Rw.frame (h:Rw b G v esz n l)(hf:∀q,b≤q→G'[q]?=G[q]?):Rw b G' v esz n l:=by
 rcases h with h|⟨p,k,st,h1,h2,h3,h4⟩
 ·exact .inl h
 ·exact .inr ⟨p,k,st,h1,h2,by rw[hf p h1];exact h3,h4⟩
def Rw.set_lt (h:Rw b G v esz n l){q:Nat}{ob:LObj}(hq:q<b):Rw b (G.set q ob) v esz n l :=
 h.frame fun r hr=>Ad (by omega)
def Rw.push_end (h:Rw b G v esz n l){ob:List LObj}:Rw b (G++ob) v esz n l:=by
 rcases h with h|⟨p,k,st,h1,h2,h3,h4⟩
 ·exact .inl h
 ·exact .inr ⟨p,k,st,h1,h2,by rw[Aq (Aa.1 h3).1];exact h3,h4⟩
def Rw.push (h:Rw b G v esz n l)(hz:0<esz)(hb:b≤G.length)(hn:n≤1000000000){m:Nat}(hx:x.length=m*esz){K:LV→Ff→Prop}
  (k:∀v' G',Rw b G' v' esz (n+m) (l++x)→(∀q,q<b→G'[q]?=G[q]?)→b≤G'.length→K v' G'):Ih G esz v m x K:=by
 rcases h with ⟨rfl,rfl,rfl⟩|⟨p,aa,st,h1,rfl,h2,h3⟩
 ·rw[appL_nil];refine k _ _ (.inr ⟨_,0,0,hb,rfl,?_,by simpa using hx⟩) (fun q hq=>Aq (by omega)) (by simp;omega);rw[Be];exact Ax
 ·have hp:p<G.length:=(Aa.1 h2).1;rw[appL_dy,h2];exact⟨rfl,⟨rfl,hz⟩,hn,k _ _ (.inr ⟨p,aa+1,st+1,h1,rfl,Ah hp,by rw[Aj,h3,hx,Bb]⟩) (fun q hq=>Ad (by omega)) (by rw[Ch];exact hb)⟩
def Rw.cells (h:Rw b G v esz n l):v.cells=some [v]:=by
 rcases h with ⟨rfl,_⟩|⟨_,_,_,_,rfl,_⟩<;>rfl
def Rw.bor (h:Rw b G v esz n l)(hd:dats l=true):Go.Sv.bor G v (.lst l n esz):=by
 rcases h with ⟨rfl,rfl,rfl⟩|⟨p,k,st,_,rfl,h2,_⟩
 ·exact .inr ⟨_,rfl⟩
 ·exact⟨_,_,_,_,rfl,h2,hd⟩
def jz.cells (h:jz b G v esz n l):v.cells=some [v]:=by
 rcases h with ⟨rfl,_⟩|⟨_,_,_,_,_,_,_,_,_,_,⟨rfl,_⟩|rfl⟩<;>rfl
end stk
end Go.Sv
namespace Go.Sv
def HSim.freeze' {c:Cx}{G:Ff}(hs:HSim c G){p k st:Nat}{x:AV}{ob:LObj}(hG:G[p]?=some ob)(hl:ob.live=true)(ah:ob.st<st)(hp:c.hd[p]?=some (k,x)) :
  HSim ⟨c.hd,fun q=>c.Fz q∨Gq x=some q,c.H⟩ (G.set p (.dead st))∧Step c G ⟨c.hd,fun q=>c.Fz q∨Gq x=some q,c.H⟩ (G.set p (.dead st)):=by
 have aj:p<G.length:=(Aa.1 hG).1;have hle:CxLe c ⟨c.hd,fun q=>c.Fz q∨Gq x=some q,c.H⟩:=⟨fun p k h e=>⟨k,h,e,Al _,fun _=>rfl,fun _=>rfl⟩,fun q hq=>⟨.inl hq,rfl⟩⟩;have af:∀q,Gq x=some q→Ij c G q:=fun q hq=>⟨p,ob,k,x,hG,hl,hp,hq⟩
 have hinv:∀{q:Nat} {aa:LObj},(G.set p (.dead st))[q]?=some aa→(q=p∧aa=.dead st)∨(q≠p∧G[q]?=some aa):=by
  intro q aa e;by_cases hq:q=p
  ·subst hq;rw[Ah aj] at e;cases e;exact .inl ⟨rfl,rfl⟩
  ·rw[Ad (Ne.symm hq)] at e;exact .inr ⟨hq,e⟩
 have ad:∀q,Ij ⟨c.hd,fun q=>c.Fz q∨Gq x=some q,c.H⟩ (G.set p (.dead st)) q→Ij c G q∧Gq x≠some q:=by
  rintro q ⟨p1,aa,k1,h1,e1,e2,e3,e4⟩;rcases hinv e1 with ⟨_,rfl⟩|⟨ao,e1⟩
  ·cases e2
  ·exact⟨⟨p1,aa,k1,h1,e1,e2,e3,e4⟩,fun hq=>ao (hs.excl p1 p aa ob k1 h1 k x q e1 hG e2 hl e3 hp e4 hq)⟩
 refine⟨⟨by simp[hs.len],fun q hq=>hq.elim (hs.fz q) (fun e=>hs.lt q (af q e)),fun q hq=>hs.lt q (ad q hq).1,fun q hq hf=>hf.elim (hs.sep q (ad q hq).1) (ad q hq).2,fun q aa k1 h1 e1 e2=>?_,?_⟩,⟨hle,Al _,fun _ _ _=>rfl,fun q hq=>.inl (ad q hq).1,fun q hq=>hq.elim .inl (fun e=>.inr (.inl (af q e))),fun q aa ag e1 e2=>?_,fun q aa ag k1 h1 o1 e1 e2 e3 e4 e5 e6=>?_⟩⟩
 ·rcases hinv e1 with ⟨_,rfl⟩|⟨_,e1⟩
  ·trivial
  ·by_cases ap:aa.live=true
   ·exact (hs.obj q aa k1 h1 e1 e2).mono hle (fun _ _=>rfl)
   ·cases aa<;>first|exact absurd rfl ap|trivial
 ·intro q r aa ag k1 h1 k2 h2 o1 e1 e2 e3 e4 e5 e6 e7 e8;rcases hinv e1 with ⟨_,rfl⟩|⟨_,e1⟩
  ·cases e3
  ·rcases hinv e2 with ⟨_,rfl⟩|⟨_,e2⟩
   ·cases e4
   ·exact hs.excl q r aa ag k1 h1 k2 h2 o1 e1 e2 e3 e4 e5 e6 e7 e8
 ·rcases hinv e2 with ⟨rfl,rfl⟩|⟨_,e2⟩
  ·rw[hG] at e1;cases e1;exact Ev ah
  ·rw[e1] at e2;cases e2;exact Al _
 ·rcases hinv e2 with ⟨rfl,rfl⟩|⟨_,e2⟩
  ·rw[hG] at e1;cases e1;have:ob.st=st:=e6;omega
  ·rw[e1] at e2;cases e2;exact⟨rfl,rfl,rfl⟩
def ARs.parts {c:Cx}:∀{a b:List LV} {v:LV} {r:List AV},ARs c (a++v::b) r→∃ra x rb,r=ra++x::rb∧ARs c a ra∧AR c v x∧ARs c b rb
 |[],b,v,r,h=>by
  cases h with
  |cons e es=>exact⟨[],_,_,rfl,.nil,e,es⟩
 |w::a,b,v,r,h=>by
  cases h with
  |cons e es =>
   obtain⟨ra,x,rb,rfl,h1,h2,h3⟩:=ARs.parts (a:=a) es;exact⟨_::ra,x,rb,rfl,.cons e h1,h2,h3⟩
def ARs.join {c:Cx}:∀{a b:List LV} {v:LV} {ra rb:List AV} {x:AV},ARs c a ra→AR c v x→ARs c b rb→ARs c (a++v::b) (ra++x::rb)
 |[],_,_,_,_,_,h1,h2,h3=>by cases h1;exact .cons h2 h3
 |_::a,_,_,_,_,_,h1,h2,h3=>by
  cases h1 with
  |cons e es=>exact .cons e (ARs.join es h2 h3)
def nl {P:Program}{t:LTgt}{a b:List LV}{p k len esz st:Nat}{l:List LV}{G:Ff}{K:LV→Ff→Prop}(C:G[p]?=some (.dyn l len esz k st))(h:Ju P t (a++.lst l len esz::b) (G.set p (.dead (st+1))) K) :
  Ju P t (a++.dy p k::b) G K:=by
 refine⟨h.1,fun c t1 j s w J=>?_⟩;obtain⟨ra,x,rb,rfl,L,M,N⟩:=J.parts;cases M with
 | @dy _ _ k' D _ e hk y O =>
  obtain⟨r0,z,d⟩:=s.obj p _ _ _ C e;have A:=y (by omega);obtain⟨E,g⟩:=s.freeze' (st:=st+1) C rfl (Bx _) e;have Q:AR ⟨c.hd,fun q=>c.Fz q∨Gq D=some q,c.H⟩ (.lst l len esz) x:=by
   rw[A];rcases d with ⟨d,B⟩|⟨o,v,room,t,F,l',d,B,R,S,H,T,r8⟩
   ·subst B;have U:l=[]:=Ay (by simpa using z);subst U;rw[d];exact .lstNil
   ·have V:l'.length=len*esz:=by rw[←H.length];exact z
    have I:=Qn (i:=0) (n:=len*esz) B S R (by omega);rw[Db,Aw (by omega)] at I;rw[d];exact .lst (.inr rfl) (fun r e=>(T r e).2) z I (H.mono (d ▸ g.le))
  have f:xh ⟨c.hd,fun q=>c.Fz q∨Gq D=some q,c.H⟩ t t1:=by
   cases t<;>cases t1<;>exact w
  obtain⟨m,v1,H',W,X,v,Y,Z,q3,q4,q5,q6⟩:=h.2 _ t1 _ E f (.join (L.mono g.le) Q (N.mono g.le));exact⟨m,v1,H',W,X,v,Y,Z,q3,g.trans s E q4,q5,q6⟩
section sub
variable {P : Program} {G : Ff} {p len esz ver st : Nat} {l l' : List LV}
def zvt {t:LTgt}{args args':List LV}{K:LV→Ff→Prop}(h:∀c r,ARs c args r→ARs c args' r)(k:Ju P t args' G K):Ju P t args G K :=
 ⟨k.1,fun c t1 a d f g=>k.2 c t1 a d f (h c _ g)⟩
end sub
end Go.Sv
namespace Go.Sv
noncomputable def ztu (P:Program)(f:Nat):Option RF :=
 match gq P f && !(zs P f) with
 |false=>none
 |true=>match P.funcs[f]? with
  |none=>none
  |some fn=>match fn.body with
   |none=>none
   |some b=>match Nat.ble fn.ntmps I6 with
    |false=>none
    |true=>match Gn P fn.ntmps b with
     |none=>none
     |some c=>match Ps P fn.results.toList with
      |none=>none
      |some rs=>some ⟨fn.ntmps,c,rs⟩
def wi {P:Program}{f:Nat}(h:¬z9t P f)(args:List AV)(H:Heap):OL P (.fn f) args H=.no:=by
 unfold OL;split
 ·rename_i g e;cases e;rw[Ab (fun x=>h x.2)]
 ·rfl
section top
variable {P : Program}
def zrr {f:Nat}{s:LC}{n:Nat}{rs:List RRes}(d:ztu P f=some ⟨n,s.r,rs⟩)(w:s.ok=true)(y:∀(a:List AV) (H:Heap),OL P (.fn f) a H=.no){args:List LV}(R:args.length≤n){G:Ff}{K:LV→Ff→Prop}
  (h:W P f n s none (V6 args 0) [] G fun x ρ D G'=>(match x with | .exit _=>False|_=>True)∧jn D G' fun r=>Jt ρ r rs fun vs=>K (Mi vs) r):Ju P (.fn f) args G K:=by
 unfold ztu at d;split at d
 ·cases d
 ·rename_i l;simp only[Ac,Bu] at l;refine⟨l,fun c t1 j I J L=>?_⟩;cases t1 with
  |yield o=>exact J.elim
  |fn g =>
   obtain rfl:f=g:=J;split at d
   ·cases d
   ·rename_i fn z;split at d
    ·cases d
    ·rename_i b S;split at d
     ·cases d
     ·rename_i p;split at d
      ·cases d
      ·rename_i rc A;split at d
       ·cases d
       ·rename_i T B;cases d;obtain⟨m,x,E',U,c',ρ',D',G',V,M,X,Y,Z,q6,q7⟩:=h b c _ [] none A w I (Hc.start L) .nil trivial;obtain⟨C,r,N,O,Q,r4⟩:=zn1 Z M q7;obtain⟨vs,as,s1,s2,s3⟩:=zk9 O (Y.mono Q.le) B r4;have q:AR C (Mi vs) (ka as):=by
         cases s2 with
         |nil=>exact .tup .nil
         |cons e es =>
          cases es with
          |nil=>exact e
          |cons e2 E=>exact .tup (.cons e (.cons e2 E))
        refine⟨m+1,ka as,C.H,?_,C,Mi vs,r,rfl,O,.trans I M X Q,q,s3⟩;unfold K8;dsimp only;rw[y];dsimp only;unfold oc;rw[z];dsimp only;rw[S];dsimp only;rw[Ag (As p)];dsimp only;have F:Nat.ble j.length fn.ntmps=true:=Ak (by rw[←L.length];exact R);rw[F];dsimp only;rw[V];dsimp only;cases x with
        |exit id=>exact q6.elim
        |normal =>
         dsimp only;rw[N];dsimp only;rw[s1];rcases as with _|⟨a,_|⟨a2,as⟩⟩<;>rfl
        |ret =>
         dsimp only;rw[N];dsimp only;rw[s1];rcases as with _|⟨a,_|⟨a2,as⟩⟩<;>rfl
def Zi {f:Nat}{s:LC}{n:Nat}{rs:List RRes}(g:ztu P f=some ⟨n,s.r,rs⟩)(a:s.ok=true)(j:zd P f=true)(l:P9 P (.fn f)){G:Ff}{K:LV→Ff→Prop}(k:K (.bool true) G)
  (h:wp P f n none s [] [] G (fq rs K)):Ju P (.fn f) [] G K:=by
 by_cases d:z9t P f
 ·exact zsh l j d k
 ·exact zrr g a (wi d) (Dh _) ((Nn s h).post fun x ρ D G' k=>by
   cases x with
   |normal=>exact⟨trivial,k⟩
   |exit i=>exact k.elim
   |ret=>exact⟨trivial,k⟩)
end top
end Go.Sv
namespace Go.Sv
def zsy {l:List LV}(h:∀v∈l,v.dat=true):dats l=true:=by
 induction l with
 |nil=>rfl
 |cons v l a=>rw[dats,h v (B6 ..),a fun w hw=>h w (A0 _ hw)];rfl
def zhi {l:List LV}(h:dats l=true):∀v∈l,v.dat=true:=by
 induction l with
 |nil=>intro v hv;cases hv
 |cons w l a =>
  rw[dats,Ac] at h;intro v hv;rcases An.1 hv with rfl|hv
  ·exact h.1
  ·exact a h.2 v hv
def zfb {l:List LV}(n:Nat)(h:dats l=true):dats (l.take n)=true:=zsy fun v hv=>zhi h v (List.mem_of_mem_take hv)
def zv9 {l:List LV}(n:Nat)(h:dats l=true):dats (l.drop n)=true:=zsy fun v hv=>zhi h v (List.mem_of_mem_drop hv)
def bt {a b:List LV}(h:dats a=true)(k:dats b=true):dats (a++b)=true:=zsy fun v hv=>(Az.1 hv).elim (zhi h v) (zhi k v)
def zux {l r:List LV}{i:Nat}(h:dats l=true)(k:dats r=true):dats (Hd l i r)=true:=by
 unfold Hd;exact bt (bt (zfb _ h) k) (zv9 _ h)
def Fp {G x:Ff}{i:Nat}(h:i<G.length):(G++x)[i]?=G[i]?:=Aq h
def Hj (b:Nat)(G:Ff)(v:LV)(esz n:Nat)(l:List LV):Prop :=
 (v=.nilSl∧n=0∧l=[])∨∃(p k:Nat) (R:List LV) (m st:Nat),b≤p∧G[p]?=some (.dyn R m esz k st)∧R.length=m*esz∧n≤m∧l=R.take (n*esz)∧dats R=true∧((v=.dy p k∧n=m)∨v=.vw p k 0 n)
section std
variable {b : Nat} {G G' : Ff} {v : LV} {esz n : Nat} {l x : List LV}
def Hj.nil:Hj b G .nilSl esz 0 []:=.inl ⟨rfl,rfl,rfl⟩
def Hj.stk (h:Hj b G v esz n l):jz b G v esz n l:=by
 rcases h with h|⟨p,k,R,m,st,h1,h2,h3,h4,h5,_,h6⟩
 ·exact .inl h
 ·exact .inr ⟨p,k,R,m,st,h1,h2,h3,h4,h5,h6⟩
def Hj.dy {p k st:Nat}(hb:b≤p)(hp:G[p]?=some (.dyn l n esz k st))(hl:l.length=n*esz)(hd:dats l=true):Hj b G (.dy p k) esz n l :=
 .inr ⟨p,k,l,n,st,hb,hp,hl,Al _,by rw[Aw (by omega)],hd,.inl ⟨rfl,rfl⟩⟩
def Hj.frame (h:Hj b G v esz n l)(hf:∀q,b≤q→q<G.length→G'[q]?=G[q]?):Hj b G' v esz n l:=by
 rcases h with h|⟨p,k,R,m,st,h1,h2,h3⟩
 ·exact .inl h
 ·exact .inr ⟨p,k,R,m,st,h1,by rw[hf p h1 (Aa.1 h2).1];exact h2,h3⟩
def Hj.set_lt (h:Hj b G v esz n l){q:Nat}{ob:LObj}(hq:q<b):Hj b (G.set q ob) v esz n l :=
 h.frame fun r hr _=>Ad (by omega)
def Hj.push_end (h:Hj b G v esz n l){ob:List LObj}:Hj b (G++ob) v esz n l :=
 h.frame fun _ _ hr=>Aq hr
def Hj.push (h:Hj b G v esz n l)(hz:0<esz)(hb:b≤G.length)(hn:n≤1000000000)(hx:x.length=esz)(aa:dats x=true){K:LV→Ff→Prop}
  (k:∀(v':LV) (G':Ff),Hj b G' v' esz (n+1) (l++x)→(∀q,q<b→G'[q]?=G[q]?)→G.length≤G'.length→(∀(q:Nat) (ob:LObj),(∀R m k st,ob≠LObj.dyn R m esz k st)→G[q]?=some ob→G'[q]?=some ob)→K v' G'):Ih G esz v 1 x K:=by
 have af:=h.stk.length;have fresh:∀l',l'=l++x→dats l'=true→K (.dy G.length 0) (G++[.dyn l' (n+1) esz 0 0]):=by
  rintro l' rfl hd;refine k _ _ (.dy hb (st:=0) Ax (by rw[Aj,af,hx,Bb];omega) hd) (fun q hq=>Aq (by omega)) (by simp) (fun q ob _ e=>by rw[Aq (Aa.1 e).1];exact e)
 rcases h with ⟨rfl,rfl,rfl⟩|⟨p,ag,R,m,st,h0,h1,h2,h3,rfl,hd,⟨rfl,rfl⟩|rfl⟩
 ·rw[appL_nil];exact fresh _ rfl aa
 ·have hp:p<G.length:=(Aa.1 h1).1;rw[Aw (by omega)] at k;rw[appL_dy,h1];refine⟨rfl,⟨rfl,hz⟩,hn,k _ _ (.dy h0 (Ah hp) (by rw[Aj,h2,hx,Bb];omega) (bt hd aa)) (fun q hq=>Ad (by omega)) (by simp) (fun q ob ho e=>?_)⟩;rw[Ad (fun q'=>by rw[←q',h1] at e;exact ho _ _ _ _ (Option.some.inj e).symm)];exact e
 ·have hp:p<G.length:=(Aa.1 h1).1;have hm:=At esz h3;have ha:(n+1)*esz=n*esz+esz:=by rw[Bb];omega
  rw[appL_vw,h1];refine⟨rfl,⟨rfl,rfl,by omega⟩,hn,?_⟩;by_cases hf:(n+1)*esz≤R.length
  ·rw[Ag hf];have ad:n+1≤m:=by
    rw[h2] at hf;exact Ez hf hz
   refine⟨k _ _ (.inr ⟨p,ag,_,m,_,h0,Ah hp,?_,ad,?_,zux hd aa,.inr rfl⟩) (fun q hq=>Ad (by omega)) (by simp) (fun q ob ho e=>?_),fresh _ rfl (bt (zfb _ hd) aa)⟩
   ·unfold Hd;simp;omega
   ·unfold Hd;have e1:(R.take (n*esz)++x).length=(n+1)*esz:=by rw[Aj,af,hx,ha]
    rw[De e1]
   ·rw[Ad (fun q'=>by rw[←q',h1] at e;exact ho _ _ _ _ (Option.some.inj e).symm)];exact e
  ·rw[Ab hf];have ad:n=m:=by
    rw[h2] at hf;have:¬n+1≤m:=fun q=>hf (At _ q)
    omega
   subst ad;have ht:R.take (n*esz)=R:=Aw (by omega);rw[ht] at k fresh;refine⟨rfl,hz,k _ _ (.dy h0 (Ah hp) (by rw[Aj,h2,hx,Bb];omega) (bt hd aa)) (fun q hq=>Ad (by omega)) (by simp) (fun q ob ho e=>?_),fresh _ rfl (bt hd aa)⟩;rw[Ad (fun q'=>by rw[←q',h1] at e;exact ho _ _ _ _ (Option.some.inj e).symm)];exact e
def Hj.cut (h:Hj b G v esz n l){m:Nat}(hm:m≤n){lo:(Nat→Prop)→Prop}{hi:Nat→(Nat→Prop)→Prop}(aa:∀K':Nat→Prop,K' 0→lo K')(ad:∀(d:Nat) (K':Nat→Prop),K' m→hi d K'){K:LV→Prop}
  (k:∀v',Hj b G v' esz m (l.take (m*esz))→K v'):cj G esz v lo hi K:=by
 rcases h with ⟨rfl,rfl,rfl⟩|⟨p,af,R,m',st,h0,h1,h2,h3,rfl,hd,⟨rfl,rfl⟩|rfl⟩
 ·have:m=0:=by omega
  subst this;rw[slL_nil];exact aa _ (ad _ _ ⟨rfl,rfl,k _ (.inl ⟨rfl,rfl,by simp⟩)⟩)
 ·rw[slL_dy,h1];refine⟨rfl,rfl,aa _ (ad _ _ ⟨by omega,hm,k _ (.inr ⟨p,af,R,n,st,h0,h1,h2,hm,?_,hd,.inr rfl⟩)⟩)⟩;rw[E4,Cz (At _ hm)]
 ·rw[slL_vw,h1];refine⟨rfl,rfl,aa _ (ad _ _ ⟨by omega,hm,k _ (.inr ⟨p,af,R,m',st,h0,h1,h2,by omega,?_,hd,.inr rfl⟩)⟩)⟩;rw[E4,Cz (At _ hm)]
def Hj.bor (h:Hj b G v esz n l):Go.Sv.bor G v (.lst l n esz):=by
 rcases h with ⟨rfl,rfl,rfl⟩|⟨p,k,R,m,st,h1,h2,h3,h4,rfl,hd,⟨rfl,rfl⟩|rfl⟩
 ·exact .inr ⟨_,rfl⟩
 ·exact⟨R,_,_,_,by rw[Aw (by omega)],h2,hd⟩
 ·have:=At esz h4;exact⟨R,_,_,_,by rw[Dg,Db],h2,by omega,hd⟩
def Hj.lenL (h:Hj b G v esz n l){K:Nat→Prop}(k:K n):Go.Sv.lenL G v K:=h.stk.lenL k
def Hj.cells (h:Hj b G v esz n l):v.cells=some [v]:=h.stk.cells
def Hj.at1 (h:Hj b G v 1 n l){i:Int}(h0:0≤i)(hi:i<n){K:LV→Prop}(k:∀a,(∀K':LV→Prop,H7 l i.toNat K'→Rk G a K')→K a):U9 G 1 v i K:=by
 refine h.stk.ix h0 hi fun p aa R m st h1 h2 h3 h4=>k _ fun K' hk=>?_
 rw[read1_dptr,h2];obtain⟨w,hw,hk⟩:=hk;refine⟨rfl,w,?_,hk⟩;rw[Da] at h3 ⊢;rw[h3 _ (by omega)];exact hw
def Tg:LV→Option Nat
 |.dy p _=>some p
 |.vw p _ _ _=>some p
 |_=>none
def Hj.frame2 (h:Hj b G v esz n l)(hf:∀q,Tg v=some q→G'[q]?=G[q]?):Hj b G' v esz n l:=by
 rcases h with h|⟨p,k,R,m,st,h1,h2,h3,h4,h5,h6,h7⟩
 ·exact .inl h
 ·refine .inr ⟨p,k,R,m,st,h1,?_,h3,h4,h5,h6,h7⟩;rw[hf p (by rcases h7 with ⟨rfl,_⟩|rfl<;>rfl)];exact h2
def Hj.row (h:Hj b G v esz n l){q:Nat}(hq:Tg v=some q):b≤q∧q<G.length∧∃R m k st,G[q]?=some (.dyn R m esz k st):=by
 rcases h with ⟨rfl,_⟩|⟨p,k,R,m,st,h1,h2,h3,h4,h5,h6,⟨rfl,_⟩|rfl⟩
 ·cases hq
 ·cases hq;exact⟨h1,(Aa.1 h2).1,_,_,_,_,h2⟩
 ·cases hq;exact⟨h1,(Aa.1 h2).1,_,_,_,_,h2⟩
def Hj.cut2 (h:Hj b G v esz n l){m:Nat}(hm:m≤n){lo:(Nat→Prop)→Prop}{hi:Nat→(Nat→Prop)→Prop}(aa:∀K':Nat→Prop,K' 0→lo K')(ad:∀(d:Nat) (K':Nat→Prop),K' m→hi d K'){K:LV→Prop}
  (k:∀v',Hj b G v' esz m (l.take (m*esz))→Tg v'=Tg v→K v'):cj G esz v lo hi K:=by
 rcases h with ⟨rfl,rfl,rfl⟩|⟨p,af,R,m',st,h0,h1,h2,h3,rfl,hd,⟨rfl,rfl⟩|rfl⟩
 ·have:m=0:=by omega
  subst this;rw[slL_nil];exact aa _ (ad _ _ ⟨rfl,rfl,k _ (.inl ⟨rfl,rfl,by simp⟩) rfl⟩)
 ·rw[slL_dy,h1];refine⟨rfl,rfl,aa _ (ad _ _ ⟨by omega,hm,k _ (.inr ⟨p,af,R,n,st,h0,h1,h2,hm,?_,hd,.inr rfl⟩) rfl⟩)⟩;rw[E4,Cz (At _ hm)]
 ·rw[slL_vw,h1];refine⟨rfl,rfl,aa _ (ad _ _ ⟨by omega,hm,k _ (.inr ⟨p,af,R,m',st,h0,h1,h2,by omega,?_,hd,.inr rfl⟩) rfl⟩)⟩;rw[E4,Cz (At _ hm)]
def Hj.push2 (h:Hj b G v esz n l)(hz:0<esz)(hb:b≤G.length)(hn:n≤1000000000)(hx:x.length=esz)(aa:dats x=true){K:LV→Ff→Prop}
  (k:∀(v':LV) (G':Ff),Hj b G' v' esz (n+1) (l++x)→(∀q,q<G.length→Tg v≠some q→G'[q]?=G[q]?)→G.length≤G'.length→(Tg v'=Tg v∨Tg v'=some G.length)→K v' G'):Ih G esz v 1 x K:=by
 have af:=h.stk.length;have fresh:∀l',l'=l++x→dats l'=true→K (.dy G.length 0) (G++[.dyn l' (n+1) esz 0 0]):=by
  rintro l' rfl hd;refine k _ _ (.dy hb (st:=0) Ax (by rw[Aj,af,hx,Bb];omega) hd) (fun q hq _=>Aq hq) (by simp) (.inr rfl)
 rcases h with ⟨rfl,rfl,rfl⟩|⟨p,ag,R,m,st,h0,h1,h2,h3,rfl,hd,⟨rfl,rfl⟩|rfl⟩
 ·rw[appL_nil];exact fresh _ rfl aa
 ·have hp:p<G.length:=(Aa.1 h1).1;rw[Aw (by omega)] at k;rw[appL_dy,h1];refine⟨rfl,⟨rfl,hz⟩,hn,k _ _ (.dy h0 (Ah hp) (by rw[Aj,h2,hx,Bb];omega) (bt hd aa)) (fun q _ hq=>Ad (fun e=>hq (by rw[←e];rfl))) (by simp) (.inl rfl)⟩
 ·have hp:p<G.length:=(Aa.1 h1).1;have hm:=At esz h3;have ha:(n+1)*esz=n*esz+esz:=by rw[Bb];omega
  rw[appL_vw,h1];refine⟨rfl,⟨rfl,rfl,by omega⟩,hn,?_⟩;by_cases hf:(n+1)*esz≤R.length
  ·rw[Ag hf];have ad:n+1≤m:=by
    rw[h2] at hf;exact Ez hf hz
   refine⟨k _ _ (.inr ⟨p,ag,_,m,_,h0,Ah hp,?_,ad,?_,zux hd aa,.inr rfl⟩) (fun q _ hq=>Ad (fun e=>hq (by rw[←e];rfl))) (by simp) (.inl rfl),fresh _ rfl (bt (zfb _ hd) aa)⟩
   ·unfold Hd;simp;omega
   ·unfold Hd;have e1:(R.take (n*esz)++x).length=(n+1)*esz:=by rw[Aj,af,hx,ha]
    rw[De e1]
  ·rw[Ab hf];have ad:n=m:=by
    rw[h2] at hf;have:¬n+1≤m:=fun q=>hf (At _ q)
    omega
   subst ad;have ht:R.take (n*esz)=R:=Aw (by omega);rw[ht] at k fresh;refine⟨rfl,hz,k _ _ (.dy h0 (Ah hp) (by rw[Aj,h2,hx,Bb];omega) (bt hd aa)) (fun q _ hq=>Ad (fun e=>hq (by rw[←e];rfl))) (by simp) (.inl rfl),fresh _ rfl (bt hd aa)⟩
end std
end Go.Sv
namespace Go.Sv
section deep
variable {P : Program}
def Lt.mkS {f:Nat}{args:List LV}{v0:LV}(hd:v0.dat=true)(h:Ju P (.fn f) args [] fun v G=>∀(c:Cx) (a:AV),HSim c G→AR c v a→AR ⟨[],fun o=>c.Fz o∨Ij c G o,c.H⟩ v0 a):Lt P f args v0:=by
 refine⟨h.1,hd,fun Fz H aa af ha=>?_⟩;obtain⟨m,v1,H',q1,c1,v,G,rfl,q3,q4,q5,q6⟩:=h.2 ⟨[],Fz,H⟩ (.fn f) aa (.empty af) rfl ha;have ad:∀o,¬Ij ⟨[],Fz,H⟩ [] o:=fun o ⟨p,_,_,_,e,_⟩=>by simp at e
 refine⟨m,v1,_,c1.H,q1,q4.nx,fun o ho=>.inl (q4.le.fz o ho).1,fun o ho=>⟨ho.elim (q3.fz o) (q3.lt o),?_⟩,fun o ho=>q4.frame o ho (ad o),q6 c1 v1 q3 q5⟩;rcases ho with ho|ho
 ·rcases q4.fznew o ho with h|h|h
  ·exact .inl h
  ·exact absurd h (ad o)
  ·exact .inr h
 ·rcases q4.new o ho with h|h
  ·exact absurd h (ad o)
  ·exact .inr h
def uu {c:Cx}{G:Ff}(s:HSim c G){p k len esz st:Nat}{l r:List LV}{a:AV}(w:G[p]?=some (.dyn l len esz k st))(j:bors G l r)(h:AR c (.dy p k) a):AR ⟨[],fun o=>c.Fz o∨Ij c G o,c.H⟩ (.lst r len esz) a:=by
 cases h with
 | @dy _ _ k' H _ e hk B _ =>
  obtain⟨I,x,f⟩:=s.obj p _ _ _ w e;have g:=B (by omega);rcases f with ⟨f,m⟩|⟨o,v,room,t,y,l',f,m,C,D,z,E,J⟩
  ·subst m;have F:l=[]:=Ay (by simpa using x);subst F;simp only[bors] at j;subst j;rw[g,f];exact .lstNil
  ·have q:l'.length=len*esz:=by rw[←z.length];exact x
   have A:=Qn (i:=0) (n:=len*esz) m D C (by omega);rw[Db,Aw (by omega)] at A;rw[g,f];have d:=bors_ok s l r l' j z;refine .lst (.inr ⟨p,_,_,_,w,rfl,e,by rw[f];rfl⟩) (fun r e=>(E r e).2) (by rw[d.length,q]) A d
def gl {c:Cx}{G:Ff}(f:HSim c G){p k len esz st:Nat}{l r:List LV}{v d:LV}{x:LV}{a:AV}(g:G[p]?=some (.dyn l len esz k st))(j:bors G l r)(hv:bor G v d)(m:bor G x x)(h:AR c (.tup [.dy p k,v,x]) a):AR ⟨[],fun o=>c.Fz o∨Ij c G o,c.H⟩ (.tup [.lst r len esz,d,x]) a:=by
 cases h with
 |tup h=>cases h with
  |cons e es=>cases es with
   |cons q es=>cases es with
    |cons s es =>
     cases es;exact .tup (.cons (uu f g j e) (.cons (bor_ok f v d _ hv q) (.cons (bor_ok f x x _ m s) .nil)))
end deep
end Go.Sv
namespace Go.Sv
def Io (b:Nat)(G:Ff)(v:LV)(esz n:Nat)(l:List LV):Prop :=
 dats l=true∧l.length=n*esz∧((v=.nilSl∧n=0∧l=[])∨∃(p k st:Nat),b≤p∧v=.dy p k∧G[p]?=some (.dyn l n esz k st))
section dys
variable {b : Nat} {G G' : Ff} {v : LV} {esz n : Nat} {l x : List LV}
def Io.nil:Io b G .nilSl esz 0 []:=⟨rfl,by simp,.inl ⟨rfl,rfl,rfl⟩⟩
def Io.frame (h:Io b G v esz n l)(hf:∀q,b≤q→q<G.length→G'[q]?=G[q]?):Io b G' v esz n l:=by
 obtain⟨h1,h2,h|⟨p,k,st,a,e,c⟩⟩:=h
 ·exact⟨h1,h2,.inl h⟩
 ·exact⟨h1,h2,.inr ⟨p,k,st,a,e,by rw[hf p a (Aa.1 c).1];exact c⟩⟩
def Io.set_lt (h:Io b G v esz n l){q:Nat}{ob:LObj}(hq:q<b):Io b (G.set q ob) v esz n l :=
 h.frame fun r hr _=>Ad (by omega)
def Io.push_end (h:Io b G v esz n l){ob:List LObj}:Io b (G++ob) v esz n l :=
 h.frame fun _ _ hr=>Aq hr
def Io.cells (h:Io b G v esz n l):v.cells=some [v]:=by
 obtain⟨_,_,⟨rfl,_⟩|⟨p,k,st,_,rfl,_⟩⟩:=h<;>rfl
def Io.push {c:Nat}(h:Io b G v esz n l)(hz:0<esz)(hb:b≤G.length)(hn:n≤1000000000)(hx:x.length=c*esz)(aa:dats x=true){K:LV→Ff→Prop}
  (k:∀(v':LV) (G':Ff),Io b G' v' esz (n+c) (l++x)→(∀q,q<b→G'[q]?=G[q]?)→G.length≤G'.length→K v' G'):Ih G esz v c x K:=by
 obtain⟨h1,h2,h⟩:=h;have hl:(l++x).length=(n+c)*esz:=by rw[Aj,h2,hx,Bb]
 rcases h with ⟨rfl,rfl,rfl⟩|⟨p,ad,st,a,rfl,e⟩
 ·rw[appL_nil];refine k _ _ ⟨by simpa using aa,hl,.inr ⟨G.length,0,0,hb,rfl,?_⟩⟩ (fun q hq=>Aq (by omega)) (by simp);rw[Ax];simp
 ·have hp:=(Aa.1 e).1;rw[appL_dy,e];exact⟨rfl,⟨rfl,hz⟩,hn,k _ _ ⟨dats_app h1 aa,hl,.inr ⟨p,ad+1,st+1,a,rfl,Ah hp⟩⟩ (fun q hq=>Ad (by omega)) (by simp)⟩
def Io.bor (h:Io b G v esz n l):Go.Sv.bor G v (.lst l n esz):=by
 obtain⟨h1,h2,⟨rfl,rfl,rfl⟩|⟨p,k,st,a,rfl,e⟩⟩:=h
 ·exact .inr ⟨_,rfl⟩
 ·exact⟨l,n,esz,st,rfl,e,h1⟩
end dys
end Go.Sv
namespace Go.Sv
section dys
variable {b : Nat} {G G' : Ff} {v : LV} {esz n : Nat} {l x : List LV}
def Io.push2 {c:Nat}(h:Io b G v esz n l)(hz:0<esz)(hb:b≤G.length)(hn:n≤1000000000)(hx:x.length=c*esz)(aa:dats x=true){K:LV→Ff→Prop}
  (k:∀(v':LV) (G':Ff),Io b G' v' esz (n+c) (l++x)→(∀q,q<G.length→(∀j,v≠.dy q j)→G'[q]?=G[q]?)→G.length≤G'.length→(∀q j,v'=.dy q j→q=G.length∨∃j',v=.dy q j')→(∀q j,v'=.dy q j→q<G'.length)→K v' G'):Ih G esz v c x K:=by
 obtain⟨h1,h2,h⟩:=h;have hl:(l++x).length=(n+c)*esz:=by rw[Aj,h2,hx,Bb]
 rcases h with ⟨rfl,rfl,rfl⟩|⟨p,ad,st,a,rfl,e⟩
 ·rw[appL_nil];refine k _ _ ⟨by simpa using aa,hl,.inr ⟨G.length,0,0,hb,rfl,?_⟩⟩ (fun q hq _=>Aq (by omega)) (by simp) (fun q j e=>by cases e;exact .inl rfl) (fun q j e=>by cases e;simp);rw[Ax];simp
 ·have hp:=(Aa.1 e).1;rw[appL_dy,e];exact⟨rfl,⟨rfl,hz⟩,hn,k _ _ ⟨dats_app h1 aa,hl,.inr ⟨p,ad+1,st+1,a,rfl,Ah hp⟩⟩ (fun q hq hv=>Ad (fun q'=>hv ad (by rw[q']))) (by simp) (fun q j e=>by cases e;exact .inr ⟨_,rfl⟩) (fun q j e=>by cases e;simpa using hp)⟩
def Io.keep (h:Io b G v esz n l)(hf:∀q j,v=.dy q j→G'[q]?=G[q]?):Io b G' v esz n l:=by
 obtain⟨h1,h2,h|⟨p,k,st,a,e,c⟩⟩:=h
 ·exact⟨h1,h2,.inl h⟩
 ·exact⟨h1,h2,.inr ⟨p,k,st,a,e,by rw[hf p k e];exact c⟩⟩
def Io.lt (h:Io b G v esz n l){q j:Nat}(e:v=.dy q j):b≤q∧q<G.length:=by
 obtain⟨_,_,⟨h,_⟩|⟨p,k,st,a,e2,c⟩⟩:=h
 ·rw[h] at e;cases e
 ·rw[e2] at e;cases e;exact⟨a,(Aa.1 c).1⟩
end dys
end Go.Sv
namespace Go.Sv
def Ol {n:Nat}(h:n<18446744073709551616):(iU (n:Int)).toNat=n:=by
 rw[Yk,UInt64.ofInt,Bo];omega
def val:List UInt64→Nat
 |[]=>0
 |x::l=>x.toNat+18446744073709551616*val l
def z9a (n:Nat):2^(64*(n+1))=18446744073709551616*2^(64*n):=by
 rw[Ds,C9,B2]
def val_append:∀a b:List UInt64,val (a++b)=val a+2^(64*a.length)*val b
 |[],b=>by simp[val]
 |x::a,b=>by
  rw[Bi,val,val,val_append a b,Ar,z9a,Ds,Cq];omega
def val_lt:∀a:List UInt64,val a<2^(64*a.length)
 |[]=>by simp[val]
 |x::a=>by
  have d:=x.toNat_lt;have f:=val_lt a;rw[val,Ar,z9a];omega
def K2 (x:UInt64):val [x]=x.toNat:=by simp[val]
def zuk (a:List UInt64)(x:UInt64):val (a++[x])=val a+2^(64*a.length)*x.toNat:=by
 rw[val_append,K2]
def val_rep0:∀n,val (List.replicate n 0)=0
 |0=>rfl
 |n+1=>by rw[Df,val,val_rep0 n];rfl
def zd2 {a:List UInt64}{n:Nat}(h:n<a.length):a.take (n+1)=a.take n++[a.getD n 0]:=by
 rw[Ck h];simp[h]
def za4 {a:List UInt64}{n:Nat}(h:n<a.length):val (a.take (n+1))=val (a.take n)+2^(64*n)*(a.getD n 0).toNat:=by
 rw[zd2 h,zuk,Ct,Cz (by omega)]
def Pk:Nat→Nat→List UInt64
 |0,_=>[]
 |f+1,n=>if n=0 then [] else UInt64.ofNat n::Pk f (n/18446744073709551616)
def Hz (n:Nat):List UInt64:=Pk n n
def toLf_more:∀(f g n:Nat),n≤f→n≤g→Pk f n=Pk g n
 |0,0,_,_,_=>rfl
 |0,g+1,n,h,_=>by
  have:n=0:=by omega
  subst this;simp[Pk]
 |f+1,0,n,_,h=>by
  have:n=0:=by omega
  subst this;simp[Pk]
 |f+1,g+1,n,d,j=>by
  simp only[Pk];by_cases a:n=0
  ·simp[a]
  ·rw[Ab a,Ab a,toLf_more f g (n/18446744073709551616) (by omega) (by omega)]
def toL_zero:Hz 0=[]:=rfl
def zkb {n:Nat}(h:n≠0):Hz n=UInt64.ofNat n::Hz (n/18446744073709551616):=by
 unfold Hz;cases n with
 |zero=>exact absurd rfl h
 |succ n =>
  rw[Pk,Ab h,toLf_more n ((n+1)/18446744073709551616) _ (by omega) (Al _)]
def Zw (n:Nat):val (Hz n)=n:=by
 induction n using Nat.strongRecOn with
 |_ n a =>
  by_cases h:n=0
  ·subst h;rfl
  ·rw[zkb h,val,a _ (by omega),Bo];omega
def xb (l:List UInt64):Prop:=l=[]∨l.getLast?.getD 0≠0
def zti {x:UInt64}{l:List UInt64}(h:xb (x::l)):xb l:=by
 cases l with
 |nil=>exact .inl rfl
 |cons y l =>
  rcases h with h|h
  ·cases h
  ·exact .inr (by simpa [List.getLast?_cons_cons] using h)
def val_pos_of_Trm:∀{l:List UInt64},l≠[]→xb l→val l≠0
 |[],h,_=>absurd rfl h
 |[x],_,h=>by
  rcases h with h|h
  ·cases h
  ·simp at h;rw[K2];intro e;exact h (Bm.1 e)
 |x::y::l,_,h=>by
  have:=val_pos_of_Trm (l:=y::l) (by simp) (zti h);rw[val];omega
def toL_val:∀{l:List UInt64},xb l→Hz (val l)=l
 |[],_=>rfl
 |x::l,h=>by
  have a:=val_pos_of_Trm (by simp) h;rw[zkb a];have g:=x.toNat_lt;have d:UInt64.ofNat (val (x::l))=x:=by
   apply Bm.1;rw[Bo,val];omega
  have f:val (x::l)/18446744073709551616=val l:=by rw[val];omega
  rw[d,f,toL_val (zti h)]
def Wi {l:List UInt64}{x:UInt64}(h:x≠0):xb (l++[x]):=.inr (by simpa using h)
def ic (n:Nat):xb (Hz n):=by
 induction n using Nat.strongRecOn with
 |_ n d =>
  by_cases h:n=0
  ·subst h;exact .inl rfl
  ·rw[zkb h];have:=d (n/18446744073709551616) (by omega);by_cases a:n/18446744073709551616=0
   ·rw[a,toL_zero];refine .inr ?_;simp;intro e;have:=congrArg UInt64.toNat e;rw[Bo] at this;simp at this;omega
   ·rw[zkb a] at this ⊢;rcases this with e|e
    ·cases e
    ·exact .inr (by simpa [List.getLast?_cons_cons] using e)
def qg {n k:Nat}(h:n<2^(64*k)):(Hz n).length≤k:=by
 induction k generalizing n with
 | zero => have : n = 0 := by simpa using h
           subst this;simp[toL_zero]
 |succ k d =>
  by_cases a:n=0
  ·subst a;simp[toL_zero]
  ·rw[zkb a,Ar];have:=d (n:=n/18446744073709551616) (by rw[z9a] at h;exact Nat.div_lt_of_lt_mul h);omega
def z60 (a:List UInt64):(Hz (val a)).length≤a.length:=qg (val_lt a)
def zwm {n:Nat}:Hz n=[]↔n=0:=⟨fun h=>by rw[←Zw n,h];rfl,fun h=>by rw[h];rfl⟩
def val_inj_length:∀{a b:List UInt64},a.length=b.length→val a=val b→a=b
 |[],[],_,_=>rfl
 |[],_::_,h,_=>by simp at h
 |_::_,[],h,_=>by simp at h
 |x::a,y::b,h,e=>by
  have g:=x.toNat_lt;have j:=y.toNat_lt;rw[val,val] at e;have d:x.toNat=y.toNat:=by omega
  have f:val a=val b:=by omega
  rw[Bm.1 d,val_inj_length (by simpa using h) f]
def RU (l:List UInt64):LObj:=.dyn (l.map .u) l.length 1 0 0
def Kn (G:Ff)(v:LV)(l:List UInt64):Prop:=(v=.nilSl∧l=[])∨∃p k st,v=.dy p k∧G[p]?=some (.dyn (l.map .u) l.length 1 k st)
def Kn.sel {G:Ff}{v:LV}{l:List UInt64}(h:Kn G v l):Pz G [v] [RU l]:=by
 rcases h with ⟨rfl,rfl⟩|⟨p,k,st,rfl,hg⟩
 ·simp[RU]
 ·simp[RU,hg]
def qq {l:List UInt64}:∀(j:Nat) (ob:LObj),[RU l][j]?=some ob→∃c len esz,ob=.dyn c len esz 0 0∧c.all LV.scal=true:=by
 intro j ob e;cases j with
 |zero=>simp at e;subst e;exact⟨_,_,_,rfl,by simp⟩
 |succ j=>simp at e
def tj {l r:List UInt64}:∀(j:Nat) (ob:LObj),[RU l,RU r][j]?=some ob→∃c len esz,ob=.dyn c len esz 0 0∧c.all LV.scal=true:=by
 intro j ob e
 match j with
 |0=>simp at e;subst e;exact⟨_,_,_,rfl,by simp⟩
 |1=>simp at e;subst e;exact⟨_,_,_,rfl,by simp⟩
 |j+2=>simp at e
def Hf.row {P:Program}{f:Nat}{args:List LV}{l:List UInt64}(h:Ju P (.fn f) args [] fun v G=>Kn G v l):Hf P f args (.dy 0 0) [RU l] :=
 Hf.mk rfl (h.mono fun v G e=>⟨[v],by simp,rfl,e.sel⟩) qq
def Hf.rowE {P:Program}{f:Nat}{args:List LV}{l:List UInt64}{e:Int}(h:Ju P (.fn f) args [] fun v G=>∃w,v=.tup [w,.i e]∧Kn G w l):Hf P f args (.tup [.dy 0 0,.i e]) [RU l] :=
 Hf.mk rfl (h.mono fun v G ⟨w,e1,e2⟩=>⟨[w],by simp[e1],rfl,e2.sel⟩) qq
def Hf.row2E {P:Program}{f:Nat}{args:List LV}{l r:List UInt64}{e:Int}(h:Ju P (.fn f) args [] fun v G=>∃w w',v=.tup [w,w',.i e]∧Kn G w l∧Kn G w' r∧∀p k,w=.dy p k→xi p w'):Hf P f args (.tup [.dy 0 0,.dy 1 0,.i e]) [RU l,RU r] :=
 Hf.mk rfl (h.mono fun v G ⟨w,w',e1,e2,e3,e4⟩=>⟨[w,w'],by simp[e1],rfl,by
  have h3:=e3.sel;rcases e2 with ⟨rfl,rfl⟩|⟨p,k,st,rfl,hg⟩
  ·simp only[Pz,RU] at h3 ⊢;exact⟨by simp,by simp,by simp,by simp,h3⟩
  ·have h4:=e4 p k rfl;simp only[Pz,RU,List.mem_singleton,forall_eq] at h3 ⊢;exact⟨by simp,by simp,⟨st,hg⟩,by simp,h4,h3⟩⟩) tj
def F0 (a b:UInt64):Bool→UInt64×Bool
 |false=>(a+b,decide (a+b<a))
 |true=>(a+b+1,decide (a+b<a) || decide (a+b+1=0))
def Gu (a b:UInt64):Bool→UInt64×Bool
 |false=>(a - b,decide (a<b))
 |true=>(a - b - 1,decide (a<b) || decide (a - b=0))
def zx (x:UInt64):x=0↔x.toNat=0:=⟨fun h=>by rw[h];rfl,fun h=>Bm.1 (by rw[h];rfl)⟩
def zph (b:Bool):b.toNat=if b=true then 1 else 0:=by cases b<;>rfl
def pk (a b:UInt64)(c:Bool):(F0 a b c).1.toNat+18446744073709551616*(F0 a b c).2.toNat=a.toNat+b.toNat+c.toNat:=by
 have d:=a.toNat_lt;have f:=b.toNat_lt;cases c with
 |false =>
  simp only[F0,zph,Ao,Ca,Bs];split<;>simp<;>omega
 |true =>
  simp only[F0,zph,Bn,Ao,Ca,zx,Bs,UInt64.toNat_one];split<;>simp<;>omega
def zci (a b:UInt64)(c:Bool):(Gu a b c).1.toNat+b.toNat+c.toNat=a.toNat+18446744073709551616*(Gu a b c).2.toNat:=by
 have f:=a.toNat_lt;have g:=b.toNat_lt;cases c with
 |false =>
  have e:(Gu a b false).2=decide (a.toNat<b.toNat):=by simp[Gu,Ca]
  rw[e];simp only[Gu,D3];by_cases h:a.toNat<b.toNat<;>simp[h]<;>omega
 |true =>
  have e:(Gu a b true).2=decide (a.toNat≤b.toNat):=by
   simp only[Gu,Ca,zx,D3];by_cases h:a.toNat≤b.toNat
   ·by_cases d:a.toNat<b.toNat
    ·simp[h,d]
    ·have:a.toNat=b.toNat:=by omega
     simp[this];omega
   ·simp[h];omega
  rw[e];simp only[Gu,D3,UInt64.toNat_one];by_cases h:a.toNat≤b.toNat<;>simp[h]<;>omega
def jr {G:Ff}{p:Nat}{ob:LObj}(h:G[p]?=some ob)(x:Ff):(G++x)[p]?=some ob:=by
 rw[Aq (Aa.1 h).1];exact h
def s9 {G:Ff}{p:Nat}{ob:LObj}(h:G[p]?=some ob)(ob':LObj):(G.set p ob')[p]?=some ob':=Ah (Aa.1 h).1
def fe {G:Ff}{p q:Nat}(h:q≠p)(ob':LObj):(G.set p ob')[q]?=G[q]?:=Ad (Ne.symm h)
def Kn.app {G:Ff}{v:LV}{l:List UInt64}(h:Kn G v l)(x:Ff):Kn (G++x) v l:=by
 rcases h with h|⟨p,k,st,h1,h2⟩
 ·exact .inl h
 ·exact .inr ⟨p,k,st,h1,jr h2 x⟩
def zte {G:Ff}{v:LV}{l xs:List UInt64}{n:Nat}{new:List LV}{K:LV→Ff→Prop}(h:Kn G v l)(r:n=xs.length)(a:new=xs.map .u)(s:l.length≤1000000000)
  (k:∀j G',Kn G' j (l++xs)→(∀(q:Nat) (ob:LObj),G[q]?=some ob→(∀k,v≠.dy q k)→G'[q]?=some ob∧∀k,j≠.dy q k)→K j G'):Ih G 1 v n new K:=by
 subst r a;rcases h with ⟨rfl,rfl⟩|⟨p,d,st,rfl,o⟩
 ·refine k _ _ (.inr ⟨G.length,0,0,rfl,by simp⟩) (fun q ob g _=>⟨jr g _,fun k e=>?_⟩);cases e;have:=(Aa.1 g).1;omega
 ·simp only[Ih,o];refine⟨by simp,⟨by simp,by simp⟩,by simpa using s,k _ _ (.inr ⟨p,d+1,st+1,rfl,by rw[s9 o];simp⟩) (fun q ob g m=>?_)⟩;have f:q≠p:=fun e=>m d (by rw[e])
  exact⟨by rw[fe f];exact g,fun k e=>by cases e;exact f rfl⟩
def Kn.bor {G:Ff}{v:LV}{l:List UInt64}(h:Kn G v l):bor G v (LU l):=by
 rcases h with ⟨rfl,rfl⟩|⟨p,k,st,rfl,hg⟩
 ·exact .inr ⟨1,by simp⟩
 ·exact⟨_,_,_,st,rfl,hg,by simp⟩
def zvn {G:Ff}{v d:LV}(h:Go.Sv.bor G v d):bors G [v] [d]:=⟨d,[],rfl,h,rfl⟩
def Xk {G:Ff}{v d a f:LV}(h:Go.Sv.bor G v d)(g:Go.Sv.bor G a f):bors G [v,a] [d,f]:=⟨d,_,rfl,h,zvn g⟩
def Kn.new {G:Ff}{l:List UInt64}:Kn (G++[RU l]) (.dy G.length 0) l:=.inr ⟨G.length,0,0,rfl,by simp[RU]⟩
def yw {P:Program}{f:Nat}{args a:List LV}{l:List UInt64}{G:Ff}{K:LV→Ff→Prop}(d:Hf P f a (.dy 0 0) [RU l])(g:bors G args a)(k:K (.dy G.length 0) (G++[RU l])):Ju P (.fn f) args G K :=
 zrq d g (by simpa using k)
def pi {a:List UInt64}{n:Nat}(h:a.length≤n):val (a.take n)=val a:=by rw[Aw h]
def yl {a:List UInt64}{n:Nat}(h:a.length≤n):val a<2^(64*n):=Bh (val_lt a) (D0 (by omega) (by omega))
def Pq (m:Nat):2^(64*(m+1))=2^(64*m)*18446744073709551616:=by
 rw[Nat.pow_mul,Nat.pow_mul,Bg]
def ba (a:List UInt64)(n:Nat):val (a.take (n+1))=val (a.take n)+2^(64*n)*(a.getD n 0).toNat:=by
 by_cases h:n<a.length
 ·exact za4 h
 ·rw[Aw (by omega),Aw (by omega)];have:a.getD n 0=0:=by simp;rw[Dk (by omega)];rfl
  rw[this];simp
def zz0 (x:UInt64):val [x]=x.toNat:=by simp[val]
def val_getD:∀{a b:List UInt64},val a=val b→∀i,a.getD i 0=b.getD i 0
 |[],[],_,_=>rfl
 |[],y::b,h,i=>by
  simp only[val] at h;have f:y=0:=(zx y).2 (by omega);have g:val []=val b:=by simp only[val];omega
  have d:=val_getD g;cases i with
  |zero=>simp[f]
  |succ i=>simpa using d i
 |x::a,[],h,i=>by
  simp only[val] at h;have j:x=0:=(zx x).2 (by omega);have l:val a=val []:=by simp only[val];omega
  have d:=val_getD l;cases i with
  |zero=>simp[j]
  |succ i=>simpa using d i
 |x::a,y::b,h,i=>by
  simp only[val] at h;have m:=x.toNat_lt;have o:=y.toNat_lt;have e:x.toNat=y.toNat:=by omega
  have d:=val_getD (a:=a) (b:=b) (by omega);cases i with
  |zero=>simpa using Bm.1 e
  |succ i=>simpa using d i
def Wf {x y z Q B:Nat}{c:Bool}(a:2≤B)(hv:x+Q*B*c.toNat=y+z)(d:y<Q)(f:z<Q):x=y+z:=by
 cases c
 ·simpa using hv
 ·have:Q*2≤Q*B:=Es _ a;simp at hv;omega
def cx {a b out:List UInt64}{c:Bool}{n m:Nat}(h:n=m+1)(d:a.length≤m)(f:b.length≤m)(hv:val out+2^(64*n)*c.toNat=val a+val b):val out=val a+val b:=by
 subst h;rw[Pq] at hv;exact Wf (by decide) hv (yl d) (yl f)
def addn {o A a Q B s x y c c':Nat}(hv:o+Q*c=A+a)(h:s+B*c'=x+y+c):o+Q*s+Q*B*c'=A+Q*x+(a+Q*y):=by
 have:Q*(s+B*c')=Q*(x+y+c):=by rw[h]
 simp only[Ds,←Cq] at this;omega
def Wc {a b out:List UInt64}{c:Bool}{i:Nat}(d:out.length=i)(hv:val out+2^(64*i)*c.toNat=val (a.take i)+val (b.take i)) :
  val (out++[(F0 (a.getD i 0) (b.getD i 0) c).1])+2^(64*(i+1))*(F0 (a.getD i 0) (b.getD i 0) c).2.toNat=val (a.take (i+1))+val (b.take (i+1)):=by
 rw[ba,ba,Pq,val_append,d,zz0];exact addn hv (pk _ _ _)
def opened:(∀a b,Jm a b=a+b)∧(∀a b,Tq a b=a - b)∧(∀a b,Lu a b=a*b):=⟨M3,Rh,zjp⟩
def Kt (a:List UInt64)(n:Int):Int:=if n<0∨512<n then 2 else if n<(Hz (val a)).length then 3 else 0
def Lw (a:List UInt64)(n:Int):List UInt64:=if Kt a n=0 then Hz (val a)++List.replicate (n.toNat - (Hz (val a)).length) 0 else []
def zrd {a:List UInt64}{n:Int}(h:Kt a n=0):((Lw a n).length:Int)=n∧0≤n∧n≤512:=by
 unfold Lw;rw[Ag h];unfold Kt at h;by_cases d:n<0∨512<n
 ·rw[Ag d] at h;simp at h
 ·rw[Ab d] at h;by_cases f:n<(Hz (val a)).length
  ·rw[Ag f] at h;simp at h
  ·simp;omega
def va (n:Nat):H8 [LV.u 0] n=(List.replicate n (0:UInt64)).map .u:=by
 induction n with
 |zero=>rfl
 |succ n a=>simp[H8,a,Df]
def LN (l:List (List UInt64)):LV:=.lst (l.map LU) l.length 1
attribute [simp] LN
def zxi (l:List (List UInt64))(i:Nat)(K:LV→Prop):H7 (l.map LU) i K=(i<l.length∧K (LU (l.getD i []))):=zv1 _ _ _ _ _
def Q6 (l:List (List UInt64)):dats (l.map LU)=true:=zcl (fun x=>by simp) l
attribute [simp] zxi Q6
attribute [simp ↓] zxi
def L9 (a b:UInt64):UInt64:=UInt64.ofNat (a.toNat*b.toNat/18446744073709551616)
def zof (a b:UInt64):(L9 a b).toNat*18446744073709551616+(a*b).toNat=a.toNat*b.toNat:=by
 have d:=a.toNat_lt;have f:=b.toNat_lt;have g:a.toNat*b.toNat≤18446744073709551615*18446744073709551615:=Cb (by omega) (by omega);rw[L9,Bo,Ei];omega
def kx (x:UInt64):(x &&& 4294967295).toNat=x.toNat%4294967296:=by
 rw[UInt64.toNat_and];exact Nat.and_two_pow_sub_one_eq_mod x.toNat 32
def sm (a b:UInt64) :
  Jm (Jm (Lu (It a 32) (It b 32)) (It (Jm (Lu (It a 32) (Kg b 4294967295)) (It (Lu (Kg a 4294967295) (Kg b 4294967295)) 32)) 32)) (It (Jm (Lu (Kg a 4294967295) (It b 32)) (Kg (Jm (Lu (It a 32) (Kg b 4294967295)) (It (Lu (Kg a 4294967295) (Kg b 4294967295)) 32)) 4294967295)) 32)=L9 a b:=by
 simp only[M3,zjp,Vg,Vi];apply Bm.1;have j:=a.toNat_lt;have l:=b.toNat_lt;simp only[L9,Bs,Ei,Bo,kx,Nat.reducePow];generalize a.toNat=x at *;generalize b.toNat=y at *;have d:x=x/4294967296*4294967296+x%4294967296:=by omega
 have f:y=y/4294967296*4294967296+y%4294967296:=by omega
 have m:x/4294967296<4294967296:=by omega
 have o:x%4294967296<4294967296:=by omega
 have w:y/4294967296<4294967296:=by omega
 have z:y%4294967296<4294967296:=by omega
 have m1:x/4294967296%18446744073709551616=x/4294967296:=by omega
 have g:y/4294967296%18446744073709551616=y/4294967296:=by omega
 rw[m1,g];have h:x*y=(x/4294967296*(y/4294967296))*18446744073709551616+(x/4294967296*(y%4294967296))*4294967296+(x%4294967296*(y/4294967296))*4294967296+x%4294967296*(y%4294967296):=by
  generalize x/4294967296=p at *;generalize x%4294967296=q at *;generalize y/4294967296=r at *;generalize y%4294967296=s at *;subst d f
  grind
 rw[h];generalize x/4294967296=p at *;generalize x%4294967296=q at *;generalize y/4294967296=r at *;generalize y%4294967296=s at *;have A:p*r≤4294967295*4294967295:=Cb (by omega) (by omega);have B:p*s≤4294967295*4294967295:=Cb (by omega) (by omega);have C:q*r≤4294967295*4294967295:=Cb (by omega) (by omega);have D:q*s≤4294967295*4294967295:=Cb (by omega) (by omega);generalize p*r=E at *;generalize p*s=F at *;generalize q*r=G at *;generalize q*s=H at *;clear d f m1 g m o w z j l h;omega
def Ik (n:Nat):Nat:=if n=0 then 0 else n.log2+1
def blen_zero:Ik 0=0:=rfl
def zog {n:Nat}(h:n≠0):Ik n=Ik (n/2)+1:=by
 unfold Ik;rw[Ab h];by_cases a:n/2=0
 ·have:n=1:=by omega
  subst this;decide
 ·rw[Ab a,Nat.log2_def n,Ag (by omega)]
def ki (n:Nat):n<2^Ik n:=by
 unfold Ik;by_cases h:n=0
 ·subst h;decide
 ·rw[Ab h];exact (Nat.log2_lt h).1 (Bx _)
def zsu {n k:Nat}(h:n<2^k):Ik n≤k:=by
 unfold Ik;by_cases a:n=0
 ·subst a;simp
 ·rw[Ab a];exact (Nat.log2_lt a).2 h
def zl3 {n:Nat}:∀s:Nat,n/2^s≠0→Ik n=s+Ik (n/2^s)
 |0,_=>by simp
 |s+1,h=>by
  have d:n/2^s/2≠0:=by rw[Dt,←Bg];exact h
  have a:n/2^s≠0:=fun e=>d (by rw[e])
  rw[zl3 s a,zog a,Dt,show 2^s*2=2^(s+1) from rfl];omega
def zmj (v:UInt64)(s:Nat):(It v s).toNat=v.toNat/2^s:=by
 have h:=v.toNat_lt;have:v.toNat/2^s≤v.toNat:=Er _ _;rw[Vg,Bo,Bd (by omega)]
def fh (v:UInt64):(Kg v 1).toNat=v.toNat%2:=by
 rw[Vi,UInt64.toNat_and];exact Nat.and_two_pow_sub_one_eq_mod v.toNat 1
def uw (v:UInt64)(s:Nat):Kg (It v s) 1=if v.toNat.testBit s=true then 1 else 0:=by
 apply Bm.1;rw[fh,zmj,Ea];by_cases h:v.toNat/2^s%2=1
 ·simp[h]
 ·have:v.toNat/2^s%2=0:=by omega
  simp[this]
def jw {i:Nat}(h:i<64):(Kh 1 i).toNat=2^i:=by
 rw[Xi,Bo];have:2^i<2^64:=Nat.pow_lt_pow_right (by omega) h;simp;omega
def limb_at:∀(a:List UInt64) (i:Nat),(a.getD i 0).toNat=val a/2^(64*i)%18446744073709551616
 |[],i=>by simp[val]
 |x::a,0=>by
  have:=x.toNat_lt;simp[val]
 |x::a,i+1=>by
  have h:=x.toNat_lt;have d:=limb_at a i;rw[z9a,←Dt,val,show (x.toNat+18446744073709551616*val a)/18446744073709551616=val a by omega,←d];simp
def vx (a:List UInt64)(i:Nat):(a.getD (i/64) 0).toNat.testBit (i%64)=(val a).testBit i:=by
 rw[limb_at,show (18446744073709551616:Nat)=2^64 from rfl,Nat.testBit_mod_two_pow,Nat.testBit_div_two_pow];have:i%64+64*(i/64)=i:=by omega
 simp[this];intro;omega
def val_set:∀(a:List UInt64) (i:Nat) (x:UInt64),i<a.length→val (a.set i x)+2^(64*i)*(a.getD i 0).toNat=val a+2^(64*i)*x.toNat
 |[],i,x,h=>by simp at h
 |y::a,0,x,_=>by simp[val];omega
 |y::a,i+1,x,h=>by
  have d:=val_set a i x (by simpa using h);rw[z9a];simp only[List.set_cons_succ,val,List.getD_cons_succ,Cq];omega
def Xy {a:List UInt64}{i:Nat}{x:UInt64}(h:i<a.length)(d:a.getD i 0=0):val (a.set i x)=val a+2^(64*i)*x.toNat:=by
 have:=val_set a i x h;rw[d] at this;simpa using this
def zt8 (a:List UInt64)(i j:Nat)(x:UInt64)(h:i≠j):(a.set i x).getD j 0=a.getD j 0:=by simp[Ad h]
def lj (a:List UInt64)(i:Nat)(x:UInt64)(h:i<a.length):Hd (a.map .u) i [.u x]=(a.set i x).map .u:=by
 unfold Hd;rw[B8,Ag h];simp
def Yf {l:List UInt64}{n:Nat}(h:xb l)(d:l.length=n+1):Ik (val l)=64*n+Ik (l.getD n 0).toNat:=by
 have g:val l=val (l.take n)+2^(64*n)*(l.getD n 0).toNat:=by rw[←za4 (by omega),Aw (by omega)]
 have j:=yl (a:=l.take n) (n:=n) (by simp;omega);have f:val l/2^(64*n)=(l.getD n 0).toNat:=by
  rw[g,Nat.add_mul_div_left _ _ (Dl _),Dr j,Be]
 have m:(l.getD n 0).toNat≠0:=by
  rcases h with h|h
  ·rw[h] at d;simp at d
  ·intro e;refine h ?_;have:l.getLast?.getD 0=l.getD n 0:=by
    rw[List.getLast?_eq_getElem?,d];simp
   rw[this];exact (zx _).2 e
 rw[zl3 (64*n) (by rw[f];exact m),f]
def Jh (a b:Nat):Int:=if a<b then -1 else if b<a then 1 else 0
def Uk {v w k x y:Nat}(hv:v<k)(hw:w<k):Jh (v+k*x) (w+k*y)=if x<y then -1 else if y<x then 1 else Jh v w:=by
 have e:∀z,k*(z+1)=k*z+k:=fun z=>by rw[Ds,Da]
 by_cases a:x<y
 ·have:=Es k (show x+1≤y from a);rw[e] at this;rw[Ag a,Jh,Ag (by omega)]
 ·rw[Ab a];by_cases d:y<x
  ·have:=Es k (show y+1≤x from d);rw[e] at this;rw[Ag d,Jh,Ab (by omega),Ag (by omega)]
  ·rw[Ab d];have:x=y:=by omega
   subst this;unfold Jh;by_cases f:v<w
   ·rw[Ag f,Ag (by omega)]
   ·rw[Ab f,Ab (by omega)];by_cases g:w<v
    ·rw[Ag g,Ag (by omega)]
    ·rw[Ab g,Ab (by omega)]
def zin (a:List UInt64)(i:Nat):val (a.take i)<2^(64*i):=yl (by simp;omega)
def W0 (a b:List UInt64)(i:Nat):Jh (val (a.take (i+1))) (val (b.take (i+1)))=if a.getD i 0<b.getD i 0 then -1 else if b.getD i 0<a.getD i 0 then 1 else Jh (val (a.take i)) (val (b.take i)):=by
 rw[ba,ba,Uk (zin a i) (zin b i)];simp only[Ca]
def zrt {a b:Nat}:Jh a b<0↔a<b:=by
 unfold Jh;split
 ·simp;assumption
 ·split<;>simp<;>omega
def zwr {a b:Nat}:Jh a b=0↔a=b:=by
 unfold Jh;split
 ·simp;omega
 ·split<;>simp<;>omega
def zk8 {a b:Nat}:0≤Jh a b↔b≤a:=by
 have:=@zrt a b;omega
def Zh {a b:List UInt64}{i:Nat}{c:Bool}{out:List UInt64}(f:out.length=i)(hv:val out+val (b.take i)=val (a.take i)+2^(64*i)*c.toNat) :
  val (out++[(Gu (a.getD i 0) (b.getD i 0) c).1])+val (b.take (i+1))=val (a.take (i+1))+2^(64*(i+1))*(Gu (a.getD i 0) (b.getD i 0) c).2.toNat:=by
 have g:=zci (a.getD i 0) (b.getD i 0) c;rw[zuk,f,ba,ba,Pq];generalize (Gu (a.getD i 0) (b.getD i 0) c).1.toNat=s at *;generalize (Gu (a.getD i 0) (b.getD i 0) c).2.toNat=d at *;generalize (a.getD i 0).toNat=x at *;generalize (b.getD i 0).toNat=y at *;generalize 2^(64*i)=k at *;have e:k*(s+y+c.toNat)=k*(x+18446744073709551616*d):=by rw[g]
 simp only[Ds] at e;have h:k*(18446744073709551616*d)=k*18446744073709551616*d:=by rw[Cq]
 omega
def jy {a b out:List UInt64}{m:Nat}{c:Bool}(f:a.length≤m)(d:b.length≤m)(g:out.length=m)(hv:val out+val (b.take m)=val (a.take m)+2^(64*m)*c.toNat) :
  (c=true↔val a<val b)∧(c=false→val out=val a - val b):=by
 rw[pi f,pi d] at hv;have h:=yl (a:=out) (n:=m) (by omega);have j:=yl d;cases c with
 |true=>simp at hv ⊢;omega
 |false=>simp at hv ⊢;omega
def Mt (o x y m:UInt64):UInt64×UInt64:=((F0 (F0 o (x*y) false).1 m false).1,(F0 (F0 (L9 x y) 0 (F0 o (x*y) false).2).1 0 (F0 (F0 o (x*y) false).1 m false).2).1)
def Xj (o x y m:UInt64):(Mt o x y m).1.toNat+18446744073709551616*(Mt o x y m).2.toNat=o.toNat+x.toNat*y.toNat+m.toNat:=by
 have a:=pk o (x*y) false;have d:=pk (F0 o (x*y) false).1 m false;have f:=pk (L9 x y) 0 (F0 o (x*y) false).2;have g:=pk (F0 (L9 x y) 0 (F0 o (x*y) false).2).1 0 (F0 (F0 o (x*y) false).1 m false).2;have r:=zof x y;have s:=o.toNat_lt;have w:=m.toNat_lt;have A:=x.toNat_lt;have B:=y.toNat_lt;have C:x.toNat*y.toNat≤18446744073709551615*18446744073709551615:=Cb (by omega) (by omega);have D:=(F0 (L9 x y) 0 (F0 o (x*y) false).2).1.toNat_lt;have E:=(F0 (F0 (L9 x y) 0 (F0 o (x*y) false).2).1 0 (F0 (F0 o (x*y) false).1 m false).2).1.toNat_lt;unfold Mt;dsimp only;generalize (F0 (F0 (L9 x y) 0 (F0 o (x*y) false).2).1 0 (F0 (F0 o (x*y) false).1 m false).2)=h at *;generalize (F0 (L9 x y) 0 (F0 o (x*y) false).2)=j at *;generalize (F0 (F0 o (x*y) false).1 m false)=l at *;generalize (F0 o (x*y) false)=q at *;have z:(0:UInt64).toNat=0:=rfl;rw[z] at f g;simp at a d;have F:q.2.toNat≤1:=Fe _;have G:l.2.toNat≤1:=Fe _;have H:j.2.toNat≤1:=Fe _;have I:h.2.toNat≤1:=Fe _;have J:=(x*y).toNat_lt;generalize (x*y).toNat=lo at *;generalize (L9 x y).toNat=hi at *;generalize x.toNat*y.toNat=p at *;omega
def et (a b:List UInt64)(i k:Nat)(out:List UInt64)(more:UInt64):Prop :=
 out.length=a.length+b.length∧val out+2^(64*(i+k))*more.toNat=val (a.take i)*val b+2^(64*i)*((a.getD i 0).toNat*val (b.take k))∧∀j,i+b.length≤j→out.getD j 0=0
def Tw (a b:List UInt64):et a b 0 0 (List.replicate (a.length+b.length) 0) 0:=by
 refine⟨by simp,by simp[val,val_rep0],fun j d=>?_⟩;simp only[Ae,List.getElem?_replicate];split<;>rfl
def Tl {a b out:List UInt64}{i k:Nat}{more:UInt64}(hi:i<a.length)(hk:k<b.length)(h:et a b i k out more) :
  et a b i (k+1) (out.set (i+k) (Mt (out.getD (i+k) 0) (a.getD i 0) (b.getD k 0) more).1) (Mt (out.getD (i+k) 0) (a.getD i 0) (b.getD k 0) more).2:=by
 obtain⟨d,r,f⟩:=h;have hm:=Xj (out.getD (i+k) 0) (a.getD i 0) (b.getD k 0) more;have w:=val_set out (i+k) (Mt (out.getD (i+k) 0) (a.getD i 0) (b.getD k 0) more).1 (by omega);refine⟨by simp[d],?_,fun j g=>by rw[zt8 _ _ _ _ (by omega)];exact f j g⟩;rw[ba b k,show i+(k+1)=(i+k)+1 by omega,Pq];generalize (Mt (out.getD (i+k) 0) (a.getD i 0) (b.getD k 0) more).2.toNat=z at *;generalize l:(Mt (out.getD (i+k) 0) (a.getD i 0) (b.getD k 0) more).1=s1 at *;generalize (out.getD (i+k) 0).toNat=o at *;generalize (a.getD i 0).toNat=x at *;generalize (b.getD k 0).toNat=y at *;rw[show 64*(i+k)=64*i+64*k by omega,C9] at *;generalize 2^(64*i)=p at *;generalize 2^(64*k)=q at *;generalize s1.toNat=s at *;generalize val (a.take i)*val b=X at *;generalize val (b.take k)=Y at *;generalize val (out.set (i+k) s1)=V at *;generalize val out=U at *;generalize more.toNat=m at *
 grind
def Tp {a b out:List UInt64}{i:Nat}{more:UInt64}(hi:i<a.length)(h:et a b i b.length out more):et a b (i+1) 0 (out.set (i+b.length) more) 0:=by
 obtain⟨g,d,f⟩:=h;have l:=Xy (a:=out) (i:=i+b.length) (x:=more) (by omega) (f _ (Al _));refine⟨by simp[g],?_,fun j m=>by rw[zt8 _ _ _ _ (by omega)];exact f j (by omega)⟩;rw[l,ba a i];rw[Ej] at d;generalize (a.getD i 0).toNat=x at *;simp[val,Bb];rw[←Cq] at d;rw[d]
def Um {a b out:List UInt64}{i:Nat}(h:et a b i 0 out 0):val out=val (a.take i)*val b:=by
 have:=h.2.1;simpa [val] using this
def Wl {a b out:List UInt64}(h:et a b a.length 0 out 0):val out=val a*val b:=by
 have:=Um h
 rwa [Ej] at this
def ng (A B N:Nat)(q:List UInt64)(r:Nat):Prop:=r=A/2^N%B∧val q=A/2^N/B*2^N
def znt {A B N r:Nat}(f:0<B)(a:r=A/2^(N+1)%B):(2*r+(A.testBit N).toNat<B→A/2^N%B=2*r+(A.testBit N).toNat∧A/2^N/B=2*(A/2^(N+1)/B)) ∧
  (B≤2*r+(A.testBit N).toNat→A/2^N%B=2*r+(A.testBit N).toNat - B∧A/2^N/B=2*(A/2^(N+1)/B)+1):=by
 have j:A/2^(N+1)=A/2^N/2:=by rw[Dt];rfl
 have l:(A.testBit N).toNat=A/2^N%2:=by
  rw[Ea];by_cases h:A/2^N%2=1
  ·simp[h]
  ·have:A/2^N%2=0:=by omega
   simp[this]
 rw[j] at a ⊢;rw[l];generalize A/2^N=x at *;have g:=Nat.div_add_mod (x/2) B;have o:r<B:=by rw[a];exact Cm _ f
 rw[←a] at g;have m:x=2*(x/2)+x%2:=by omega
 have p:x%2<2:=by omega
 generalize x/2/B=c at *;generalize x/2=y at *;generalize x%2=d at *;subst g;have key:∀z w,w<B→x=B*z+w→x%B=w∧x/B=z:=fun z w hw e=>by
  subst e;exact⟨by rw[Nat.mul_add_mod,Bd hw],by rw[Nat.mul_add_div f,Dr hw,Cw]⟩
 refine⟨fun h=>key _ _ h ?_,fun h=>key _ _ (by omega) ?_⟩
 ·rw[m,E8];grind
 ·have:B*(2*c+1)=2*(B*c)+B:=by grind
  omega
def wv {q:List UInt64}{N:Nat}(f:N/64<q.length)(h:2^(N+1) ∣ val q):val (q.set (N/64) (Pj (q.getD (N/64) 0) (Kh 1 (N%64))))=val q+2^N:=by
 have g:=val_set q (N/64) (Pj (q.getD (N/64) 0) (Kh 1 (N%64))) f;have j:=limb_at q (N/64);have a:N%64<64:=by omega
 have l:2^(N%64+1) ∣ (q.getD (N/64) 0).toNat:=by
  obtain⟨c,d⟩:=h;rw[j,d,show (2:Nat)^(N+1)=2^(64*(N/64))*2^(N%64+1) by rw[←C9];congr 1;omega,Cq,Nat.mul_div_cancel_left _ (Dl _)];refine (Nat.dvd_mod_iff ?_).2 (Nat.dvd_mul_right _ _);rw[show (18446744073709551616:Nat)=2^64 from rfl];exact Nat.pow_dvd_pow 2 (by omega)
 obtain⟨c,d⟩:=l;have m:(Pj (q.getD (N/64) 0) (Kh 1 (N%64))).toNat=(q.getD (N/64) 0).toNat+2^(N%64):=by
  rw[Vj,D7,jw a];have:=Et (i:=N%64+1) (b:=2^(N%64)) (Nat.pow_lt_pow_right (by omega) (by omega)) c;rw[←d] at this;exact this.symm
 rw[m,Ds,←C9,show 64*(N/64)+N%64=N by omega] at g;omega
def ztz {A B N:Nat}{q:List UInt64}{r:Nat}(d:0<B)(h:ng A B (N+1) q r)(a:2*r+(A.testBit N).toNat<B):ng A B N q (2*r+(A.testBit N).toNat):=by
 obtain⟨f,g⟩:=h;obtain⟨j,l⟩:=(znt d f).1 a;refine⟨j.symm,?_⟩;rw[l,g,Bg]
 grind
def zu2 {A B N:Nat}{q:List UInt64}{r:Nat}(f:0<B)(g:N/64<q.length)(h:ng A B (N+1) q r)(a:B≤2*r+(A.testBit N).toNat):ng A B N (q.set (N/64) (Pj (q.getD (N/64) 0) (Kh 1 (N%64)))) (2*r+(A.testBit N).toNat - B):=by
 obtain⟨j,d⟩:=h;obtain⟨l,m⟩:=(znt f j).2 a;refine⟨l.symm,?_⟩;rw[wv g (by rw[d];exact Nat.dvd_mul_left _ _),m,d,Bg]
 grind
def zy7 {A B:Nat}{n:Nat}:ng A B (Ik A) (List.replicate n 0) 0:=by
 have h:A/2^Ik A=0:=Dr (ki A);refine⟨by rw[h];simp,by rw[h,val_rep0];simp⟩
def ko {A B:Nat}{q:List UInt64}{r:Nat}(h:ng A B 0 q r):val q=A/B∧r=A%B:=by
 obtain⟨a,d⟩:=h;simp at a d;exact⟨d,a⟩
def mE (n:Nat):Int:=if n=0 then 2 else 0
def mR (n r:Nat):List UInt64:=if n=0 then [] else Hz r
def mE_p {n:Nat}(h:n≠0):mE n=0:=by simp[mE,h]
def mR_p {n r:Nat}(h:n≠0):mR n r=Hz r:=by simp[mR,h]
def ee (n:List UInt64):Bool:=decide (n.getD 0 0%2=1)
def Zz (n:List UInt64):ee n=(val n).testBit 0:=by
 have h:=limb_at n 0;have e:(n.getD 0 0%2=1)↔(n.getD 0 0).toNat%2=1:=by
  constructor
  ·intro h;simpa using congrArg UInt64.toNat h
  ·intro h;apply Bm.1;simpa using h
 unfold ee;rw[Nat.testBit_zero];simp only[e,h];simp
def Ga {l:List LV}{i:Nat}{v:LV}{K:LV→Prop}(h:l[i]?=some v):H7 l i K=K v:=by simp[H7,h]
def W1 {α:Type}{f:α→LV}{l:List α}{i:Nat}{a:α}(h:l[i]?=some a):(l.map f)[i]?=some (f a):=by simp[h]
mutual
def bor_self {G:Ff}(v:LV)(h:v.dat=true):bor G v v:=by
 cases v with
 |agg l=>simp only[LV.dat] at h;exact⟨l,rfl,bors_self l h⟩
 |nilSl=>exact .inl rfl
 |dy p k=>simp[LV.dat] at h
 |vw p k lo len=>simp[LV.dat] at h
 |_=>exact⟨rfl,h⟩
termination_by SizeOf.sizeOf v
def bors_self {G:Ff}(l:List LV)(h:dats l=true):bors G l l:=by
 cases l with
 |nil=>rfl
 |cons v l =>
  simp only[dats,Ac] at h;exact⟨v,l,rfl,bor_self v h.1,bors_self l h.2⟩
termination_by SizeOf.sizeOf l
end
def Uz {α:Type}(p:α→Bool)(l:List α):Int:=if l.findIdx p<l.length then (l.findIdx p:Int) else -1
def Y7 {α:Type}{p:α→Bool}{l:List α}{i:Nat}{a:α}(h:l[i]?=some a)(d:p a=true)(f:∀j b,j<i→l[j]?=some b→p b=false):Uz p l=i:=by
 obtain⟨hi,rfl⟩:=Aa.1 h;have:l.findIdx p=i:=(List.findIdx_eq hi).2 ⟨d,fun j g=>f j _ g (Ai _)⟩;rw[Uz,this,Ag hi]
def zuq {α:Type}{p:α→Bool}{l:List α}{i:Nat}(hi:l.length≤i)(d:∀j b,j<i→l[j]?=some b→p b=false):Uz p l=-1:=by
 have:l.findIdx p=l.length:=List.findIdx_eq_length.2 fun a f=>by
  obtain⟨j,g,rfl⟩:=Cs.1 f;exact d j _ (by omega) (Ai _)
 rw[Uz,this,Ab (by omega)]
def zz7 {α:Type}(p:α→Bool)(l:List α):decide (0≤Uz p l)=l.any p:=by
 unfold Uz;by_cases h:l.findIdx p<l.length
 ·rw[Ag h,B5 (by omega)];exact (By.2 ⟨_,D4 h,List.findIdx_getElem⟩).symm
 ·rw[Ab h,D6 (by omega)];have a:=List.findIdx_eq_length.1 (show l.findIdx p=l.length by have:=List.findIdx_le_length (p:=p) (xs:=l);omega);exact (Ee.2 fun x d=>by simp[a x d]).symm
def dv (l:List Int)(j:Nat)(x:Int)(h:j<l.length):Hd (l.map .i) j [.i x]=(l.set j x).map .i:=by
 unfold Hd;rw[B8,Ag h];simp[List.map_take,List.map_drop]
def gd (l:List Int)(u:Nat):Int:=l.getD u 0
def wm (l:List Int)(j u:Nat)(x:Int)(h:j<l.length):gd (l.set j x) u=if u=j then x else gd l u:=by
 simp only[gd,Ae,E9];by_cases e:j=u
 ·subst e;simp[h]
 ·simp[e,Ne.symm e]
def o0 {l:List Int}{u:Nat}(h:u<l.length):l[u]?=some (gd l u):=by simp[gd,Ae,h]
def vj (l:List Int)(m:Nat):Prop:=∀u v,u<v→v<m→gd l u<gd l v
structure Cmp (l0 l:List Int) (m d:Nat):Prop where
 len:l.length=l0.length
 m1:1≤m
 md:m≤d
 st:vj l m
 mem:∀x,(∃u,u<m∧gd l u=x)↔∃u,u<d∧gd l0 u=x
 last:gd l (m - 1)=gd l0 (d - 1)
 rest:∀u,d - 1≤u→gd l u=gd l0 u∨u<m
def Xn {a r:List LV}{m:Nat}(h:m≤a.length):(Hd a m r).take m=a.take m:=by
 unfold Hd;rw[Bt,En (by rw[Ct];omega),E4,Nat.min_self]
def zw9 {a r:List LV}{m:Nat}(h:m+r.length=a.length):(Hd a m r).length=a.length:=by
 unfold Hd;simp;omega
def zt4 {v:LV}(h:v.dat=true):∀n,dats (H8 [v] n)=true
 |0=>rfl
 |n+1=>by simp[H8,dats,h,zt4 h n]
end Go.Sv
