/- Texts of the evaluator, of the logic over it, of plain arithmetic. -/
import Derived.Test.YtodjkjimaheggaaGreatSvG1
import Derived.OpenShut
import Derived.Carry
import Derived.WalkKit
import Derived.ProofKit
import Derived.WideKeyArgs
import Derived.ChangeCalls
set_option linter.unusedSimpArgs false
set_option linter.defProp false
namespace Go.Sv
section res
variable {P : Program} {c : Cx} {G : Ev} {K : LV → Ev → Prop}
def zzf {d:TypeDesc}{k k':LV}{a j:AV}{b:Bool}(f:AR c k a)(g:AR c k' j)(h:Pp d k k'=some b):c8 d a j=some b:=by
 unfold Pp at h;split at h
 ·cases f;cases g;cases h;simp only[c8,show Qj .i64 .i64=true from rfl,Yx]
 ·cases f;cases g;cases h;simp only[c8,show Qj .u64 .u64=true from rfl,Yx,zlq]
 ·cases f;cases g;cases h;simp only[c8,zwr]
 ·cases h
def zt9 {d:TypeDesc}{k:LV}{a:AV}(hk:AR c k a){K:Option LV→Prop}:∀{es:List (LV×LV×Nat)} {f:List (AV×AV×Nat)},MRs c es f→Z2 d k K es→(j4 d a f=some none∧K none)∨∃v b,j4 d a f=some (some b)∧AR c v b∧K (some v)
 |_,_,.nil,h=>.inl ⟨rfl,h⟩
 |(p,v1,n)::l,_,.cons g j m,h=>by
  simp only[Z2] at h;split at h
  ·rename_i b o;have:=zzf hk g o;simp only[j4,this];cases b with
   |true=>exact .inr ⟨v1,_,rfl,j,h.1 rfl⟩
   |false=>exact zt9 hk m (h.2 rfl)
  ·exact h.elim
def zwg {d:TypeDesc}{k v:LV}{a b:AV}{m:Nat}(hk:AR c k a)(hv:AR c v b):∀{es:List (LV×LV×Nat)} {f:List (AV×AV×Nat)} {K:List (LV×LV×Nat)→Bool→Prop},MRs c es f→Oo d k v m K es→∃r r' new,ky d a b m f=some (r',new)∧MRs c r r'∧K r new
 |_,_,K,.nil,h=>⟨_,_,true,rfl,.cons hk hv .nil,h⟩
 |(p,v1,n)::l,_,K,.cons g j o,h=>by
  simp only[Oo] at h;split at h
  ·rename_i t q;have:=zzf hk g q;simp only[ky,this];cases t with
   |true=>exact⟨_,_,false,rfl,.cons hk hv o,h.1 rfl⟩
   |false =>
    obtain⟨r,r',new,s,w,x⟩:=zwg (K:=fun r new=>K ((p,v1,n)::r) new) hk hv o (h.2 rfl);exact⟨_,_,new,by rw[s],.cons g j w,x⟩
  ·exact h.elim
def zvy (l:HSim c G){x:LV}{a:AV}(g:AR c x a){K:List (LV×LV×Nat)→Prop}(h:Po G x K):∃es d,zd c.H a=some d∧MRs c es d∧K es∧(a=.nilMap∧d=[]∨∃o f,a=.map o∧c.H.get o=some (.map d f)):=by
 unfold Po at h;split at h
 ·cases g;exact⟨[],[],rfl,.nil,h,.inl ⟨rfl,rfl⟩⟩
 ·rename_i p;split at h
  ·rename_i es f st m;cases g with
   | @map _ o e =>
    obtain⟨_,r,d,he,j,q⟩:=l.obj p _ _ _ m e;injection he with he
    subst he;refine⟨es,d,?_,q,h,.inr ⟨o,f,rfl,j⟩⟩;simp only[zd,j]
  ·exact h.elim
 ·exact h.elim
def zhb (a:HSim c G)(k:K (.map G.length) (G++[.map [] 0 0])):J8 P c G K (Rq c.H):=by
 unfold Rq;obtain⟨d,f,_⟩:=a.push (H':=c.H.push (.map [] 0)) (x:=.map c.H.next) (ob:=.map [] 0 0) (by show c.H.next≤c.H.next+1;omega) (fun o ho=>Heap.get_push_ne _ _ ho) (fun o e=>by cases e;exact⟨Am _,by show c.H.next<c.H.next+1;omega⟩)
  ⟨rfl,c.H.next,[],rfl,Heap.get_push_same _ _,.nil⟩
 exact⟨_,.map G.length,_,rfl,d,f,.map (by rw[←a.len];exact Aw),k⟩
def zzs (g:HSim c G){d:TypeDesc}{m k v:LV}{w x y:AV}(hm:AR c m w)(hk:AR c k x)(hv:AR c v y)(h:ij G d m k v fun G'=>K .any G') :
  J8 P c G K (match (generalizing:=false) w with
   |.map o=>match c.H.get o with
    |some (.map es clock)=>match ky d x y clock es with
     |some (f,true)=>.val J3 (c.H.put o (.map f (Nat.add clock 1)))
     |some (f,false)=>.val J3 (c.H.put o (.map f clock))
     |none=>.no
    |_=>.no
   |_=>.no):=by
 unfold ij at h;split at h
 ·rename_i p;split at h
  ·rename_i es L st j;cases hm with
   | @map _ o e =>
    obtain⟨_,z,f,he,B,C⟩:=g.obj p _ _ _ j e;injection he with he
    subst he;obtain⟨r,r',new,D,E,A⟩:=zwg hk hv C h;have l:o<c.H.next:=g.lt o ⟨p,_,_,_,j,rfl,e,rfl⟩;have fin:∀a,K .any (G.set p (.map r a (st+1)))→J8 P c G K (.val J3 (c.H.put o (.map r' a))):=by
     intro a F;obtain⟨H,I,M⟩:=g.upd (k':=0) (x':=.map o) (ob':=.map r a (st+1)) (H':=c.H.put o (.map r' a)) j rfl e (Am _) (fun z _ s=>Heap.get_put_ne _ _ (fun q=>s (by rw[q];rfl))) (fun z J=>by cases J;exact⟨.inl rfl,l⟩) (Am _) (fun _=>rfl) (fun _=>rfl) (.inl (B2 _))
      (fun hle=>⟨rfl,o,r',rfl,Heap.get_put_same _ _ _,E.mono hle⟩)
     exact⟨_,.any,_,rfl,H,I,.any _,F⟩
    simp only[B,D];cases new with
    |true=>exact fin _ A
    |false=>exact fin _ A
  ·exact h.elim
 ·exact h.elim
def HSim.freeze (hs:HSim c G){p k o st:Nat}{x:AV}{ob:LObj}(hG:G[p]?=some ob)(hl:ob.live=true)(ah:ob.st<st)(hp:c.hd[p]?=some (k,x))(ho:Gb x=some o) :
  HSim ⟨c.hd,fun q=>c.Fz q∨q=o,c.H⟩ (G.set p (.dead st))∧Step c G ⟨c.hd,fun q=>c.Fz q∨q=o,c.H⟩ (G.set p (.dead st)):=by
 have aj:p<G.length:=(Aa.1 hG).1;have hle:CxLe c ⟨c.hd,fun q=>c.Fz q∨q=o,c.H⟩:=⟨fun p k h e=>⟨k,h,e,Am _,fun _=>rfl,fun _=>rfl⟩,fun q hq=>⟨.inl hq,rfl⟩⟩;have af:Hw c G o:=⟨p,ob,k,x,hG,hl,hp,ho⟩;have hinv:∀{q:Nat} {aa:LObj},(G.set p (.dead st))[q]?=some aa→(q=p∧aa=.dead st)∨(q≠p∧G[q]?=some aa):=by
  intro q aa e;by_cases hq:q=p
  ·subst hq;rw[Ag aj] at e;cases e;exact .inl ⟨rfl,rfl⟩
  ·rw[Ad (Ne.symm hq)] at e;exact .inr ⟨hq,e⟩
 have ad:∀q,Hw ⟨c.hd,fun q=>c.Fz q∨q=o,c.H⟩ (G.set p (.dead st)) q→Hw c G q∧q≠o:=by
  rintro q ⟨p1,aa,k1,h1,e1,e2,e3,e4⟩;rcases hinv e1 with ⟨_,rfl⟩|⟨ao,e1⟩
  ·cases e2
  ·refine⟨⟨p1,aa,k1,h1,e1,e2,e3,e4⟩,fun hq=>ao ?_⟩;subst hq;exact hs.excl p1 p aa ob k1 h1 k x q e1 hG e2 hl e3 hp e4 ho
 refine⟨⟨by simp[hs.len],fun q hq=>hq.elim (hs.fz q) (fun e=>by rw[e];exact hs.lt o af),fun q hq=>hs.lt q (ad q hq).1,fun q hq hf=>hf.elim (hs.sep q (ad q hq).1) (ad q hq).2,fun q aa k1 h1 e1 e2=>?_,?_⟩,⟨hle,Am _,fun _ _ _=>rfl,fun q hq=>.inl (ad q hq).1,fun q hq=>hq.elim .inl (fun e=>.inr (.inl (by rw[e];exact af))),fun q aa ag e1 e2=>?_,fun q aa ag k1 h1 o1 e1 e2 e3 e4 e5 e6=>?_⟩⟩
 ·rcases hinv e1 with ⟨_,rfl⟩|⟨_,e1⟩
  ·trivial
  ·by_cases ap:aa.live=true
   ·exact (hs.obj q aa k1 h1 e1 e2).mono hle (fun _ _=>rfl)
   ·cases aa<;>first|exact absurd rfl ap|trivial
 ·intro q r aa ag k1 h1 k2 h2 o1 e1 e2 e3 e4 e5 e6 e7 e8;rcases hinv e1 with ⟨_,rfl⟩|⟨_,e1⟩
  ·cases e3
  ·rcases hinv e2 with ⟨_,rfl⟩|⟨_,e2⟩
   ·cases e4
   ·exact hs.excl q r aa ag k1 h1 k2 h2 o1 e1 e2 e3 e4 e5 e6 e7 e8
 ·rcases hinv e2 with ⟨rfl,rfl⟩|⟨_,e2⟩
  ·rw[hG] at e1;cases e1;exact Ek ah
  ·rw[e1] at e2;cases e2;exact Am _
 ·rcases hinv e2 with ⟨rfl,rfl⟩|⟨_,e2⟩
  ·rw[hG] at e1;cases e1;have:ob.st=st:=e6;omega
  ·rw[e1] at e2;cases e2;exact⟨rfl,rfl,rfl⟩
end res
end Go.Sv
namespace Go.Sv
section res
variable {P : Program} {c : Cx} {G : Ev} {K : LV → Ev → Prop}
def zpf (l h m o v i esz:Nat)(f:l≤h)(g:h≤m):(h - l=0∧Uh l h m o v i esz=.emp∧l≠0)∨∃a,Uh l h m o v i esz=.sl o v (i+l*esz) (h - l) esz a∧∀r,a=some r→h - l≤r:=by
 unfold Uh;cases j:Nat.beq l m with
 |true =>
  have q:=Al j;cases d:Nat.beq l 0 with
  |true =>
   have p:=Al d;have:h - l=0:=by omega
   refine .inr ⟨some 0,?_,fun r _=>by omega⟩;rw[this,p];simp
  |false=>exact .inl ⟨by omega,rfl,fun e=>by subst e;cases d⟩
 |false=>exact .inr ⟨_,rfl,fun r e=>by cases e;show h - l≤m - l;omega⟩
def z9l {lo hi:Option Nat}{o v i len esz:Nat}{room:Option Nat}(f:lo.getD 0≤hi.getD len)(j:hi.getD len≤len)(m:∀r,room=some r→len≤r) :
  ∃a,Ok esz lo hi none o v i len esz room=some a∧Yz a=true∧((hi.getD len - lo.getD 0=0∧a=.emp∧lo.getD 0≠0)∨∃d,a=.sl o v (i+lo.getD 0*esz) (hi.getD len - lo.getD 0) esz d∧∀r,d=some r→hi.getD len - lo.getD 0≤r):=by
 generalize s:lo.getD 0=l at f;generalize w:hi.getD len=h at f j;have key:∀a,((h - l=0∧a=.emp∧l≠0)∨∃d,a=AV.sl o v (i+l*esz) (h - l) esz d∧∀r,d=some r→h - l≤r)→Yz a=true:=by
  rintro a (⟨_,rfl,_⟩|⟨_,rfl,_⟩)<;>rfl
 unfold Ok;rw[Bj,s,w];dsimp only;unfold j8;have p:Nat.ble l h=true:=Ak f;cases room with
 |some r =>
  have g:Nat.ble h ((some r).getD len)=true:=Ak (by have:=m r rfl;show h≤r;omega);rw[p,g];dsimp only;have:=zpf l h r o v i esz f (by have:=m r rfl;omega);exact⟨_,rfl,key _ this,this⟩
 |none =>
  have g:Nat.ble h ((none:Option Nat).getD len)=true:=Ak j;rw[p,g];dsimp only;cases q:Nat.beq l 0 with
  |true =>
   have x:=Al q;have:(h - l=0∧(AV.sl o v i h esz none)=.emp∧l≠0)∨∃d,AV.sl o v i h esz none=AV.sl o v (i+l*esz) (h - l) esz d∧∀r,d=some r→h - l≤r:=.inr ⟨none,by rw[x];simp,fun r e=>by cases e⟩;exact⟨_,rfl,key _ this,this⟩
  |false =>
   cases y:Nat.beq l h with
   |true =>
    have z:=Al y;exact⟨_,rfl,rfl,.inl ⟨by omega,rfl,fun e=>by subst e;cases q⟩⟩
   |false=>exact⟨_,rfl,rfl,.inr ⟨none,rfl,fun r e=>by cases e⟩⟩
def zfm {lo hi:Option Nat}{o v i len esz m:Nat}{room:Option Nat}(g:lo.getD 0≤hi.getD len)(j:hi.getD len≤m)(hm:m≤len)(p:∀r,room=some r→len≤r) :
  ∃a,Ok esz lo hi (some m) o v i len esz room=some a∧Yz a=true∧((hi.getD len - lo.getD 0=0∧a=.emp∧lo.getD 0≠0)∨∃d,a=.sl o v (i+lo.getD 0*esz) (hi.getD len - lo.getD 0) esz d∧∀r,d=some r→hi.getD len - lo.getD 0≤r):=by
 generalize q:lo.getD 0=l at g;generalize s:hi.getD len=h at g j;have key:∀a,((h - l=0∧a=.emp∧l≠0)∨∃d,a=AV.sl o v (i+l*esz) (h - l) esz d∧∀r,d=some r→h - l≤r)→Yz a=true:=by
  rintro a (⟨_,rfl,_⟩|⟨_,rfl,_⟩)<;>rfl
 unfold Ok;rw[Bj,q,s];dsimp only;unfold j8;have f:m≤room.getD len:=by
  cases room with
  |none=>exact hm
  |some r=>have:=p r rfl;show m≤r;omega
 rw[show Nat.ble l h=true from Ak g,show Nat.ble h (room.getD len)=true from Ak (Bo j f)];dsimp only;rw[show Nat.ble h m=true from Ak j,show Nat.ble m (room.getD len)=true from Ak f];dsimp only;have:=zpf l h m o v i esz g j;exact⟨_,rfl,key _ this,this⟩
def zg7 {lo hi:Option Nat}{size o v i len esz:Nat}{room:Option Nat}{a:AV}(h:Ok size lo hi none o v i len esz room=some a)(d:lo.getD 0=0):∃i' n,a=.sl o v i' n esz room:=by
 unfold Ok at h;split at h
 ·cases h
 rw[d] at h;unfold j8 at h;split at h
 ·cases h
 split at h
 ·cases h
 dsimp only at h;cases room with
 |some r =>
  dsimp only at h;cases h;unfold Uh;split
  ·rename_i f;have:=Al f;subst this;exact⟨_,_,rfl⟩
  ·exact⟨_,_,rfl⟩
 |none =>
  dsimp only at h;cases h;exact⟨_,_,rfl⟩
def zod {lo hi:Option Nat}{size o v i len esz d:Nat}{room:Option Nat}{a f:AV}(h:Ok size lo hi none o v i len esz room=some a)(g:d=0→lo.getD 0=0)(j:f=.sl o v 0 len esz room):Sn d f a:=by
 intro l;obtain⟨i',n,rfl⟩:=zg7 h (g l);subst j;exact .inl rfl
def zmm {lo hi:Option Nat}{size o v i len esz f g i2 p:Nat}{d:Option Nat}{a j:AV}(h:Ok size lo hi none o v i len esz d=some a)(l:f=0→lo.getD 0=0∧g=0)(q:Sn g j (.sl o v i2 p esz d)):Sn f j a:=by
 intro m;obtain⟨i',n,rfl⟩:=zg7 h (l m).1;exact q (l m).2
def zls {lo hi:Option Nat}{size o v i len esz m f:Nat}{room:Option Nat}{a g:AV}(h:Ok size lo hi (some m) o v i len esz room=some a)(d:f=0→lo.getD 0=0)(hm:m≤len)(j:g=.sl o v 0 len esz room):Sn f g a:=by
 intro l;have d:=d l;subst j;unfold Ok at h;split at h
 ·cases h
 rw[d] at h;unfold j8 at h;split at h
 ·cases h
 split at h
 ·cases h
 dsimp only at h;split at h
 ·cases h
 split at h
 ·cases h
 cases h;have p:∃(i' n r:Nat),Uh 0 (hi.getD len) m o v i esz=.sl o v i' n esz (some r)∧r≤m:=by
  unfold Uh;cases Nat.beq 0 m with
  |true=>exact⟨_,_,0,rfl,Dd _⟩
  |false=>exact⟨_,_,m - 0,rfl,Nat.sub_le _ _⟩
 obtain⟨i',n,r,e,q⟩:=p;rw[e];exact .inr ⟨r,rfl,by omega⟩
def zog {lo hi:Option Nat}{size o v i len esz m:Nat}{room:Option Nat}{a:AV}(h:Ok size lo hi (some m) o v i len esz room=some a)(f:lo.getD 0=0)(g:hi.getD len=m)(hm:0<m):a=.sl o v i m esz (some m):=by
 unfold Ok at h;split at h
 ·cases h
 rw[f,g] at h;unfold j8 at h;split at h
 ·cases h
 split at h
 ·cases h
 dsimp only at h;split at h
 ·cases h
 split at h
 ·cases h
 cases h;unfold Uh;have d:Nat.beq 0 m=false:=by
  cases d:Nat.beq 0 m with
  |false=>rfl
  |true=>have:=Al d;omega
 rw[d];dsimp only;rw[show Nat.add i (Nat.mul 0 esz)=i by show i+0*esz=i;omega,show Nat.sub m 0=m from rfl]
def AR.lst' {l:List LV}{len esz:Nat}{a:AV}{o v i n:Nat}{l':List AV}{j:Nat}(hf:c.Fz o)(hr:Jd c.H o v i n=some l')(hl:ARs c l l')(hle:j*esz+len*esz≤n)
  (ha:(len=0∧a=.emp)∨∃room,a=.sl o v (i+j*esz) len esz room∧∀r,room=some r→len≤r):AR c (.lst ((l.drop (j*esz)).take (len*esz)) len esz) a:=by
 have hn:=zeh hr;have ad:=hl.length;rcases ha with ⟨rfl,rfl⟩|⟨room,rfl,aa⟩
 ·simp only[Dc,Eo];exact .lstEmp
 ·exact .lst hf aa (by simp;omega) (zkb hr hle) ((hl.drop _).take _)
def zn (mx:Bool)(a b:Int):S6 mx (.int .i64 a) [.int .i64 b]=some (.int .i64 (match mx with|true=>max a b|false=>min a b)):=by
 have hk:Qj .i64 .i64=true:=rfl;simp only[S6,Ps,hk];cases mx with
 |true =>
  simp only[Ng];by_cases h:a<b
  ·rw[B4 h];simp only;congr 2;omega
  ·rw[Dy h];simp only;congr 2;omega
 |false =>
  simp only[Ng];by_cases h:b<a
  ·rw[B4 h];simp only;congr 2;omega
  ·rw[Dy h];simp only;congr 2;omega
def bn (mx:Bool)(a b d:Int):S6 mx (.int .i64 a) [.int .i64 b,.int .i64 d]=some (.int .i64 (match mx with|true=>max (max a b) d|false=>min (min a b) d)):=by
 cases mx with
 |true =>
  have f:=zn true a b;have g:=zn true (max a b) d;simp only[S6] at f g ⊢;cases hm:Ps true (.int .i64 a) (.int .i64 b) with
  |none=>rw[hm] at f;cases f
  |some r =>
   rw[hm] at f;simp only[Option.some.injEq] at f;subst f;exact g
 |false =>
  have f:=zn false a b;have g:=zn false (min a b) d;simp only[S6] at f g ⊢;cases hm:Ps false (.int .i64 a) (.int .i64 b) with
  |none=>rw[hm] at f;cases f
  |some r =>
   rw[hm] at f;simp only[Option.some.injEq] at f;subst f;exact g
def tn (mx:Bool)(a b:UInt64):S6 mx (.int .u64 (Int.ofNat a.toNat)) [.int .u64 (Int.ofNat b.toNat)]=some (.int .u64 (Int.ofNat (match mx with|true=>if a<b then b else a|false=>if b<a then b else a:UInt64).toNat)):=by
 have hk:Qj .u64 .u64=true:=rfl;simp only[S6,Ps,hk];cases mx with
 |true =>
  simp only[Ng,zgq];by_cases h:a<b
  ·rw[B4 h,Ai h]
  ·rw[Dy h,Ab h]
 |false =>
  simp only[Ng,zgq];by_cases h:b<a
  ·rw[B4 h,Ai h]
  ·rw[Dy h,Ab h]
def bytesA_map:∀l:List UInt8,O1.bytesA (l.map fun b=>AV.int .u8 (Int.ofNat b.toNat))=some (Hh l)
 |[]=>rfl
 |b::l=>by
  have a:=b.toNat_lt;have h:Nat.blt b.toNat 256=true:=by unfold Nat.blt;exact Ak a
  simp only[C6,O1.bytesA,h,Bu,bytesA_map l,Hh]
def ARs_b:∀{bs:List UInt8} {l':List AV},ARs c (bs.map LV.b) l'→l'=bs.map fun b=>AV.int .u8 (Int.ofNat b.toNat)
 |[],l',h=>by cases h;rfl
 |b::bs,l',h=>by
  cases h with
  |cons h a=>cases h;rw[ARs_b a];rfl
def bm (z:HSim c G){x:LV}{a:AV}{K:List LV→Prop}(q:AR c x a)(h:si G x K):∃l l',ARs c l l'∧K l∧((a=.nilSl∧l'=[])∨∃o v i room,a=.sl o v i l'.length 1 room∧Jd c.H o v i l'.length=some l'):=by
 unfold si at h;split at h
 ·cases q;exact⟨[],[],.nil,h,.inl ⟨rfl,rfl⟩⟩
 ·rename_i p k;split at h
  ·rename_i l len esz A st B;obtain⟨C,rfl,h⟩:=h;cases q with
   | @dy _ _ k' J _ e hk D _ =>
    obtain⟨L,s,g⟩:=z.obj p _ _ _ B e;have j:=D (by omega);rcases g with ⟨g,r⟩|⟨o,v,room,t,w,l',g,r,E,F,y,_⟩
    ·subst r;have:l=[]:=A0 (by simpa using s);subst this;exact⟨[],[],.nil,h,.inl ⟨j.trans g,rfl⟩⟩
    ·have d:l'.length=len*1:=by rw[←y.length];exact s
     have f:=Pj (i:=0) (n:=len*1) r F E (by omega);rw[De] at d f;refine⟨l,l',y,h,.inr ⟨o,v,0,room,by rw[j,g,d],?_⟩⟩;rw[d,f,C7,Ax (by omega)]
  ·exact h.elim
 ·rename_i l len esz;obtain⟨rfl,m,h⟩:=h;cases q with
  |lst M H hlen f I =>
   have d:=zeh f;rw[De] at d f;refine⟨l,_,I,h,.inr ⟨_,_,_,_,by rw[d],by rw[d];exact f⟩⟩
  |lstNil=>exact absurd rfl m
  |lstEmp=>exact absurd rfl m
 ·exact h.elim
def qw (C:HSim c G){ρ:Ey}{E:Tr AV}(D:Gm c ρ E){o:LOp}(A:o.ok=true)(h:F7 P ρ G o K):J8 P c G K (Ha P (ρA E) c.H o.r):=by
 cases o with
 |move x=>exact .same C (Gz D A) h
 |pick cc a b =>
  simp only[LOp.ok,Ac] at A;have hc:=Gz D A.1.1;have Y:=Gz D A.1.2;have hb:=Gz D A.2;simp only[F7] at h;simp only[LOp.r,Ha];generalize cc.ev ρ=cv at h hc;generalize cc.r.ev (ρA E)=ca at hc ⊢;cases cv<;>first|exact h.elim|skip
  rename_i t;cases hc;dsimp only at h;split at h
  ·rename_i x y B hy;rw[B] at Y;rw[hy] at hb;cases t with
   |true=>exact .same C Y h
   |false=>exact .same C hb h
  ·cases t with
   |true=>exact .same C Y (h.1 rfl)
   |false=>exact .same C hb (h.2 rfl)
 |alloc l=>exact zkl C (jh c A) h
 |box x =>
  have B:=Gz D A;simp only[F7] at h;simp only[LOp.r,Ha];split at h
  ·rename_i l W;obtain⟨l',I,F⟩:=B.cells W;rw[I];exact zkl C F h
  ·exact h.elim
 |build cs ps =>
  simp only[LOp.ok,Ac] at A;simp only[F7] at h;simp only[LOp.r,Ha];split at h
  ·rename_i l W;obtain⟨l',I,F⟩:=zl8 D A.2 (jh c A.1) W;rw[I];exact .same C (.agg F) h
  ·exact h.elim
 |buildSl size len cs ps =>
  simp only[LOp.ok,Ac] at A;simp only[F7] at h;simp only[LOp.r,Ha];split at h
  ·rename_i l W;obtain⟨l',I,F⟩:=zl8 D A.2 (jh c A.1) W;rw[I];exact Zn C F h.1 (fun r e=>by cases e;rfl) h.2
  ·exact h.elim
 |load1 x =>
  have B:=Gz D A;simp only[F7] at h;simp only[LOp.r,Ha];obtain⟨o,v,i,w,b,I,F,O,L⟩:=zsm C B h;rw[I];dsimp only;rw[F];exact .same C O L
 |loadN n x =>
  have B:=Gz D A;simp only[F7] at h;simp only[LOp.r,Ha];obtain⟨o,v,i,l',l,I,F,O,L⟩:=zlo C B h;rw[I];dsimp only;rw[F];exact .same C (.agg O) L
 |store n x y =>
  simp only[LOp.ok,Ac] at A;have B:=Gz D A.1;have hy:=Gz D A.2;simp only[F7] at h;simp only[LOp.r,Ha];split at h
  ·rename_i l W;obtain⟨l',p1,p2⟩:=hy.cells W;obtain⟨o,v,i,H',c',G',I,F,O,L,Q,q6⟩:=xo C B p2 h.2;rw[I];dsimp only;rw[p1];dsimp only;have hb:Nat.beq l'.length n=true:=by rw[←p2.length,h.1];exact Bj _
   rw[hb];dsimp only;rw[F];exact⟨c',.tup [],G',O,L,Q,.tup .nil,q6⟩
  ·exact h.elim
 |nilChk x =>
  have B:=Gz D A;simp only[F7] at h;simp only[LOp.r,Ha];generalize x.ev ρ=v at h B;generalize x.r.ev (ρA E)=a at B ⊢;split at h
  ·have h0:=B;cases B;exact .same C h0 h
  ·have h0:=B;cases B;exact .same C h0 h
  ·have h0:=B;cases B;exact .same C h0 h
  ·have h0:=B;cases B;exact .same C h0 h
  ·exact h.elim
 |bin op g t x y =>
  simp only[LOp.ok,Ac] at A;exact .ret C (ct (Gz D A.1) (Gz D A.2) h)
 |un op x=>exact .ret C (qx (Gz D A) h)
 |cvInt k x =>
  obtain⟨k',n,I,v,F,O⟩:=lq (Gz D A) (show Zb k (x.ev ρ) (fun v=>K v G) from h);simp only[LOp.r,Ha];rw[I];exact .same C F O
 |cvStr x =>
  have B:=Gz D A;simp only[F7] at h;simp only[LOp.r,Ha];obtain⟨l,l',I,⟨bs,rfl,F⟩,O⟩:=bm C B h;have aC:=ARs_b I;rcases O with ⟨O,L⟩|⟨o,v,i,room,O,L⟩
  ·rw[O];rw[L] at aC;have:bs=[]:=by cases bs with
    |nil=>rfl
    |cons _ _=>cases aC
   subst this;exact .same C (.str []) F
  ·rw[O];show J8 P c G K (match Jd c.H o v i l'.length with
    |some r=>match O1.bytesA r with
     |some n=>OR.val (.str l'.length n) c.H
     |none=>.no
    |none=>.no)
   rw[L];dsimp only;rw[aC,bytesA_map];dsimp only;exact .same C (.str' (by simp) rfl) F
 |cvSame x =>
  have B:=Gz D A;simp only[F7] at h;simp only[LOp.r,Ha];generalize x.ev ρ=v at h B;generalize x.r.ev (ρA E)=a at B ⊢;split at h
  ·cases B;exact .same C (.str _) h
  ·exact h.elim
 |cvBytes x =>
  have B:=Gz D A;simp only[F7] at h;simp only[LOp.r,Ha];generalize x.ev ρ=v at h B;generalize x.r.ev (ρA E)=a at B ⊢;split at h
  ·rename_i l;cases B;exact Zn C (zoc l c) (by simp) (fun r e=>by cases e) h
  ·exact h.elim
 |mkFunc f a b =>
  simp only[LOp.ok,Ac] at A;exact .same C (.fn (zsy D A.1) (zsy D A.2)) h
 |mkSl size z l cc =>
  simp only[LOp.ok,Ac] at A;have W:=Gz D A.1.2;have hc:=Gz D A.2;simp only[F7] at h;simp only[LOp.r,Ha];generalize l.ev ρ=lv at h W;generalize l.r.ev (ρA E)=la at W ⊢;generalize cc.ev ρ=cv at h hc;generalize cc.r.ev (ρA E)=ca at hc ⊢;split at h
  ·rename_i n m;obtain⟨rfl,J,T,N,h4⟩:=h;cases W;cases hc;obtain⟨k,rfl⟩:=Af J;have b1:Nat.ble k k=true:=Ak (Am _);have b2:Nat.ble k 1048576=true:=Ak (by omega);show J8 P c G K (match Nat.ble k k with
    |true=>match Nat.ble k 1048576 with
     |true=>match newObj c.H (Lu (toAs z) k) with
      |some (o,H')=>OR.val (.sl o 0 0 k size (some k)) H'
      |none=>.no
     |false=>.no
    |false=>.no)
   rw[b1,b2];exact Zn C ((jh c A.1.1).rep k) (by rw[ye,N]) (fun r e=>by cases e;rfl) h4
  ·exact h.elim
 |slStr x lo hi =>
  simp only[LOp.ok,Ac] at A;have B:=Gz D A.1.1;simp only[F7] at h;simp only[LOp.r,Ha];generalize x.ev ρ=v at h B;generalize x.r.ev (ρA E)=a at B ⊢;split at h
  ·rename_i l;cases B;obtain⟨aa,U,I,F,O⟩:=Of D A.1.2 h;obtain⟨R,S,L,Q,J,T,N⟩:=Of D A.2 O;rw[I,L];dsimp only;rw[F,Q];have b1:Nat.ble U S=true:=Ak J;have b2:Nat.ble S l.length=true:=Ak T;rw[b1,b2];dsimp only;refine .same C (.str' (by simp;omega) ?_) N;rw[packL_take,packL_drop];rfl
  ·exact h.elim
 |slSl size x lo hi =>
  simp only[LOp.ok,Ac] at A;have B:=Gz D A.1.1;simp only[F7] at h;simp only[LOp.r,Ha];have ap:H8 (ρA E) none=some none:=rfl;rw[ap];split at h
  ·rename_i hv;rw[hv] at B;generalize x.r.ev (ρA E)=a at B ⊢;cases B;obtain⟨aa,U,I,F,O⟩:=Of D A.1.2 h;obtain⟨R,S,L,Q,J,T,N⟩:=Of D A.2 O;rw[I,L];dsimp only;rw[F,Q,J,T];exact .same C .nilSl N
  ·rename_i p k hv;rw[hv] at B;generalize x.r.ev (ρA E)=a at B ⊢;split at h
   ·rename_i l len esz ad st X;obtain⟨af,rfl,h⟩:=h;obtain⟨aa,U,I,F,O⟩:=Of D A.1.2 h;obtain⟨R,S,L,Q,J,T,N⟩:=Of D A.2 O;rw[I,L];cases B with
    | @dy _ _ k' hh _ e hk Y _ =>
     obtain⟨r0,r1,V⟩:=C.obj p _ _ _ X e;have ah:=Y (by omega);rcases V with ⟨V,Z⟩|⟨o,v,room,t,aq,l',V,Z,r4,r5,r6,r7,r8⟩
     ·subst Z;have e1:U=0:=by omega
      have e2:S=0:=by omega
      subst e1 e2;rw[ah,V];dsimp only;rw[F,show R.getD 0=0 from Q];exact .same C (.vw e hk (fun _=>.inl ⟨rfl,.inl rfl⟩) rfl (fun _ _=>trivial)) N
     ·obtain⟨a2,p1,p2,p3⟩:=z9l (lo:=aa) (hi:=R) (o:=o) (v:=v) (i:=0) (esz:=esz) (len:=len) (room:=room) (by rw[F,Q];exact J) (by rw[Q];exact T) (fun r e'=>(r7 r e').2);rw[ah,V];dsimp only;rw[p1];rw[F,Q,Bd] at p3;refine .same C (.vw e hk (fun _=>?_) p2 (fun _=>zod p1 (fun h0=>by rw[F];exact h0) V)) N;rcases p3 with ⟨p3,p4,p5⟩|⟨M,p4⟩
      ·exact .inl ⟨p3,.inr ⟨p4,p5⟩⟩
      ·exact .inr ⟨o,v,len,esz,room,M,V,p4⟩
   ·exact h.elim
  ·rename_i p k l0 len hv;rw[hv] at B;generalize x.r.ev (ρA E)=a at B ⊢;split at h
   ·rename_i l aj esz ad st X;obtain⟨af,rfl,h⟩:=h;obtain⟨aa,U,I,F,O⟩:=Of D A.1.2 h;obtain⟨R,S,L,Q,J,T,N⟩:=Of D A.2 O;rw[I,L];cases B with
    | @vw _ _ _ _ k' hh _ e hk Y _ hz =>
     have aL:=(C.obj p _ _ _ X e).1;rcases Y (by omega) with ⟨Z,r4⟩|⟨o,v,ag,H,room,M,Z,r4,r9⟩
     ·subst Z;have e1:U=0:=by omega
      have e2:S=0:=by omega
      subst e1 e2;rcases r4 with rfl|⟨rfl,r5⟩
      ·dsimp only;rw[F,show R.getD 0=0 from Q];exact .same C (.vw e hk (fun _=>.inl ⟨rfl,.inl rfl⟩) rfl (fun _ _=>trivial)) N
      ·dsimp only;rw[F,show R.getD 0=0 from Q];exact .same C (.vw e hk (fun _=>.inl ⟨rfl,.inr ⟨rfl,r5⟩⟩) rfl (fun _ _=>trivial)) N
     ·subst Z;obtain⟨_,w1,w2,w3,_⟩:=Xe C X e;subst w2 w3;obtain⟨a2,p1,p2,p3⟩:=z9l (lo:=aa) (hi:=R) (o:=o) (v:=v) (i:=l0*H) (esz:=H) (len:=len) (room:=M) (by rw[F,Q];exact J) (by rw[Q];exact T) r9;rw[r4];dsimp only;rw[p1];rw[F,Q] at p3;refine .same C (.vw e hk (fun _=>?_) p2 (fun q=>zmm p1 (fun h0=>⟨by rw[F];omega,by omega⟩) (r4 ▸ hz q))) N;rcases p3 with ⟨p3,p4,p6⟩|⟨aD,p4,p5⟩
      ·exact .inl ⟨p3,.inr ⟨p4,by omega⟩⟩
      ·exact .inr ⟨o,v,_,H,room,aD,rfl,by rw[p4,Bb],p5⟩
   ·exact h.elim
  ·rename_i l len esz hv;rw[hv] at B;generalize x.r.ev (ρA E)=a at B ⊢;obtain⟨rfl,h⟩:=h;obtain⟨aa,U,I,F,O⟩:=Of D A.1.2 h;obtain⟨R,S,L,Q,J,T,N⟩:=Of D A.2 O;rw[I,L];have aA:len=0→l=[]→K (.lst [] 0 esz) G:=fun e1 e2=>by
    have e3:U=0:=by omega
    have e4:S=0:=by omega
    subst e2 e3 e4;simpa using N
   cases B with
   |lst hf ao hlen hr W =>
    obtain⟨a2,p1,p2,p3⟩:=z9l (lo:=aa) (hi:=R) (by rw[F,Q];exact J) (by rw[Q];exact T) ao;dsimp only;rw[p1];rw[F,Q] at p3;refine .same C (.lst' hf hr W ?_ (p3.imp (fun h=>⟨h.1,h.2.1⟩) id)) N;rw[←Bb];exact At _ (by omega)
   |lstNil =>
    have e3:U=0:=by omega
    have e4:S=0:=by omega
    dsimp only;rw[F,show R.getD 0=S from Q,e3,e4];exact .same C .lstNil (aA rfl rfl)
   |lstEmp =>
    have e3:U=0:=by omega
    have e4:S=0:=by omega
    dsimp only;rw[F,show R.getD 0=S from Q,e3,e4];exact .same C .lstEmp (aA rfl rfl)
  ·exact h.elim
 |slSl3 size x lo hi mx =>
  simp only[LOp.ok,Ac] at A;have B:=Gz D A.1.1.1;have aH:Xy (some mx)=true:=A.2;simp only[F7] at h;simp only[LOp.r,Ha];split at h
  ·rename_i p k hv;rw[hv] at B;generalize x.r.ev (ρA E)=a at B ⊢;split at h
   ·rename_i l len esz ad st X;obtain⟨af,rfl,h⟩:=h;obtain⟨aa,U,I,F,O⟩:=Of D A.1.1.2 h;obtain⟨R,S,L,Q,q6⟩:=Of D A.1.2 O;obtain⟨ar,aw,q7,q8,h0,J,T,N,h4⟩:=Of D aH q6;simp only[Ck] at q7;rw[I,L,q7];cases B with
    | @dy _ _ k' hh _ e hk Y _ =>
     obtain⟨r0,r1,V⟩:=C.obj p _ _ _ X e;have ah:=Y (by omega);have ap:ar=some aw:=by
      cases ar with
      |none=>unfold H8 at q7;dsimp only at q7;split at q7<;>cases q7
      |some m=>simp at q8;rw[q8]
     rcases V with ⟨V,Z⟩|⟨o,v,room,t,aq,l',V,Z,r4,r5,r6,r7,r8⟩
     ·omega
     ·obtain⟨a2,p1,p2,p3⟩:=zfm (lo:=aa) (hi:=R) (o:=o) (v:=v) (i:=0) (esz:=esz) (len:=len) (room:=room) (m:=aw) (by rw[F,Q];exact J) (by rw[Q];exact T) N (fun r e'=>(r7 r e').2);rw[ah,V,ap];dsimp only;rw[p1];rw[F,Q,Bd] at p3;unfold ic at h4;split at h4
      ·rename_i aI;obtain⟨f1,f2,f3⟩:=C8 aI;have hc:=zog p1 (by rw[F];exact f1) (by rw[Q];exact f2) (by omega);exact .same C (.vf e hk (fun _=>⟨o,v,len,esz,room,V,by rw[hc,f2]⟩) p2) h4
      refine .same C (.vw e hk (fun _=>?_) p2 (fun _=>zls p1 (fun h0=>by rw[F];exact h0) N V)) h4;rcases p3 with ⟨p3,p4,p5⟩|⟨M,p4⟩
      ·exact .inl ⟨p3,.inr ⟨p4,p5⟩⟩
      ·exact .inr ⟨o,v,len,esz,room,M,V,p4⟩
   ·exact h.elim
  ·rename_i l len esz hv;rw[hv] at B;generalize x.r.ev (ρA E)=a at B ⊢;obtain⟨rfl,h⟩:=h;obtain⟨aa,U,I,F,O⟩:=Of D A.1.1.2 h;obtain⟨R,S,L,Q,q6⟩:=Of D A.1.2 O;obtain⟨ar,aw,q7,q8,h0,J,T,N,h4⟩:=Of D aH q6;simp only[Ck] at q7;rw[I,L,q7];have ap:ar=some aw:=by
    cases ar with
    |none=>unfold H8 at q7;dsimp only at q7;split at q7<;>cases q7
    |some m=>simp at q8;rw[q8]
   cases B with
   |lst hf ao hlen hr W =>
    obtain⟨a2,p1,p2,p3⟩:=zfm (lo:=aa) (hi:=R) (m:=aw) (by rw[F,Q];exact J) (by rw[Q];exact T) N ao;rw[ap];dsimp only;rw[p1];rw[F,Q] at p3;refine .same C (.lst' hf hr W ?_ (p3.imp (fun h=>⟨h.1,h.2.1⟩) id)) h4;rw[←Bb];exact At _ (by omega)
   |lstNil=>omega
   |lstEmp=>omega
  ·exact h.elim
 |fieldAddr off x =>
  have B:=Gz D A;simp only[F7] at h;simp only[LOp.r,Ha];generalize x.ev ρ=v at h B;generalize x.r.ev (ρA E)=a at B ⊢;split at h
  ·cases B with
   |ptr e=>exact .same C (.ptr e) h
  ·cases B with
   |dptr e hk Y=>exact .same C (.dptr e hk (fun q=>⟨by rw[(Y q).1];rfl,(Y q).2⟩)) h
  ·cases B with
   |cptr hf hr W =>
    dsimp only;rw[show ∀a b c:Nat,Nat.add (a+b) c=a+(b+c) from fun a b c=>Cs a b c];exact .same C (.cptr hf hr W) h
  ·exact h.elim
 |field g n off x =>
  have B:=Gz D A;simp only[F7] at h;simp only[LOp.r,Ha];generalize x.ev ρ=v at h B;generalize x.r.ev (ρA E)=a at B ⊢;split at h
  ·rename_i l;cases B with
   |agg W =>
    dsimp only;cases g with
    |true =>
     obtain⟨J,T⟩:=h;have aE:=W.length;rename_i l';have b1:Nat.ble (Nat.add off n) l'.length=true:=Ak (show off+n≤l'.length by rw[←aE];exact J);refine .ret C ?_;simp only[V1,Ru,b1];exact .mk (.agg ((W.drop off).take n)) T
    |false =>
     obtain⟨v,hv,h⟩:=h;obtain⟨a,I,F⟩:=W.get hv;refine .ret C ?_;simp only[V1];rw[I];exact .mk F h
  ·exact h.elim
 |ixAddr size x i =>
  simp only[LOp.ok,Ac] at A;have B:=Gz D A.1;have hi:=Gz D A.2;simp only[F7] at h;simp only[LOp.r,Ha];generalize i.ev ρ=iv at h hi;generalize i.r.ev (ρA E)=ia at hi ⊢;generalize x.ev ρ=v at h B;generalize x.r.ev (ρA E)=a at B ⊢;have main : ∀ {kk : IntKind} {n : Int} (v : LV) (a : AV), AR c v a → ixO G size v n (fun v => K v G) → J8 P c G K (match a, AV.int kk n with
     |.sl o v i len esz _,.int _ (.ofNat n)=>match Nat.blt n len with
      |true=>match Nat.beq esz size with
       |true=>.val (.ptr o v (Nat.add i (Nat.mul n esz))) c.H
       |false=>.no
      |false=>.no
     |_,_=>.no):=by
   clear h B;intro kk n v a B h;unfold ixO at h;have key:∀{o v j len esz:Nat} {room:Option Nat} {m:Nat} {y:LV},m<len→esz=size→AR c y (.ptr o v (j+m*esz))→K y G→J8 P c G K (match AV.sl o v j len esz room,AV.int kk (Int.ofNat m) with
     |.sl o v i len esz _,.int _ (.ofNat n)=>match Nat.blt n len with
      |true=>match Nat.beq esz size with
       |true=>.val (.ptr o v (Nat.add i (Nat.mul n esz))) c.H
       |false=>.no
      |false=>.no
     |_,_=>.no):=by
    intro o v j len esz room m y J T N h4;subst T;have b1:Nat.blt m len=true:=by unfold Nat.blt;exact Ak J
    dsimp only;rw[b1,Bj];exact .same C N h4
   split at h
   ·rename_i p k;split at h
    ·rename_i l len esz ad st X;obtain⟨af,rfl,J,T,N⟩:=h;obtain⟨m,rfl⟩:=Af J;cases B with
     | @dy _ _ k' hh _ e hk Y _ =>
      obtain⟨r0,r1,V⟩:=C.obj p _ _ _ X e;have ah:=Y (by omega);rcases V with ⟨V,Z⟩|⟨o,v,room,t,aq,l',V,_⟩
      ·omega
      ·rw[ah,V];refine key (room:=room) (y:=.dptr p k (m*esz)) (by omega) rfl (.dptr e hk (fun _=>⟨by rw[Bd],len,esz,room,V⟩)) N
    ·exact h.elim
   ·rename_i p k lo len;split at h
    ·rename_i l aj esz ad st X;obtain⟨af,rfl,J,T,N⟩:=h;obtain⟨m,rfl⟩:=Af J;cases B with
     | @vw _ _ _ _ k' hh _ e hk Y _ _ =>
      have aL:=(C.obj p _ _ _ X e).1;rcases Y (by omega) with ⟨Z,r4⟩|⟨o,v,ag,H,room,M,Z,r4,r9⟩
      ·omega
      ·have e2:=e;rw[Z] at e2;obtain⟨_,w1,w2,w3,_⟩:=Xe C X e2;subst w2 w3;rw[r4];refine key (room:=M) (y:=.dptr p k ((lo+m)*H)) (by omega) rfl (.dptr e hk (fun _=>⟨by rw[Bb],ag,H,room,Z⟩)) N
    ·exact h.elim
   ·rename_i l len esz;obtain⟨rfl,J,T,N⟩:=h;obtain⟨m,rfl⟩:=Af J;cases B with
    | @lst _ _ _ _ _ _ rm _ hf ao hlen hr W =>
     refine key (room:=rm) (y:=.cptr l (m*esz)) (by omega) rfl ?_ N;rw[←hlen] at hr;exact .cptr hf hr W
    |lstNil=>omega
    |lstEmp=>omega
   ·exact h.elim
  split at h
  ·cases hi;exact main v a B h
  ·cases hi;exact main v a B h
  ·exact h.elim
 |ixStr x i =>
  simp only[LOp.ok,Ac] at A;have B:=Gz D A.1;have hi:=Gz D A.2;simp only[F7] at h;simp only[LOp.r,Ha];generalize i.ev ρ=iv at h hi;generalize i.r.ev (ρA E)=ia at hi ⊢;generalize x.ev ρ=v at h B;generalize x.r.ev (ρA E)=a at B ⊢;have key:∀{l:List UInt8} {k:IntKind} {m:Nat},m<l.length→K (.b (l.getD m 0)) G→J8 P c G K (match AV.str l.length (Hh l),AV.int k (Int.ofNat m) with
    |.str len n,.int _ (.ofNat i)=>match Nat.blt i len with
     |true=>.val (.int .u8 (Int.ofNat (Nat.mod (Nat.div n (Nat.pow 256 i)) 256))) c.H
     |false=>.no
    |_,_=>.no):=by
   intro l k m J T;have b1:Nat.blt m l.length=true:=by unfold Nat.blt;exact Ak J
   dsimp only;rw[b1];refine .same C (.b' ?_) T;have:=ziy (Ah J);show Int.ofNat (Hh l/256^m%256)=_;rw[this,Ae,Ah J];rfl
  split at h
  ·rename_i l n;obtain⟨J,T,N⟩:=h;obtain⟨m,rfl⟩:=Af J;cases B;cases hi;exact key (k:=.i64) (by omega) N
  ·rename_i l n;obtain⟨T,N⟩:=h;cases B;cases hi;exact key (k:=.u64) T N
  ·rename_i l n;obtain⟨T,N⟩:=h;cases B;cases hi;exact key (k:=.u8) T N
  ·exact h.elim
 |extract i x =>
  have B:=Gz D A;simp only[F7] at h;simp only[LOp.r,Ha];generalize x.ev ρ=v at h B;generalize x.r.ev (ρA E)=a at B ⊢;split at h
  ·rename_i l;cases B with
   |tup W =>
    dsimp only;obtain⟨v,hv,h⟩:=h;obtain⟨a,I,F⟩:=W.get hv;refine .ret C ?_;rw[I];exact .mk F h
  ·exact h.elim
 |lenStr x =>
  have B:=Gz D A;simp only[F7] at h;simp only[LOp.r,Ha];generalize x.ev ρ=v at h B;generalize x.r.ev (ρA E)=a at B ⊢;split at h
  ·cases B;exact .same C (.i _) h
  ·exact h.elim
 |lenSl x =>
  obtain⟨n,I,F⟩:=ae C (Gz D A) (show lenL G (x.ev ρ) (fun n=>K (.i n) G) from h);simp only[LOp.r,Ha];rcases F with ⟨F,rfl⟩|⟨F,rfl⟩|⟨o,v,i,esz,room,F⟩
  ·rw[F];exact .same C (.i 0) I
  ·rw[F];exact .same C (.i 0) I
  ·rw[F];exact .same C (.i n) I
 |maxi mx x y =>
  simp only[LOp.ok,Ac] at A;have B:=Gz D A.1;have hy:=Gz D A.2;simp only[F7] at h;simp only[LOp.r,Ha,C6,List.map_nil];generalize y.ev ρ=yv at h hy;generalize y.r.ev (ρA E)=ya at hy ⊢;generalize x.ev ρ=v at h B;generalize x.r.ev (ρA E)=a at B ⊢;split at h
  ·cases B;cases hy;dsimp only;rw[zn];exact .same C (.i _) h
  ·cases B;cases hy;dsimp only;rw[tn];exact .same C (.u _) h
  ·exact h.elim
 |max3 mx x y z =>
  simp only[LOp.ok,Ac] at A;have B:=Gz D A.1.1;have hy:=Gz D A.1.2;have hz:=Gz D A.2;simp only[F7] at h;simp only[LOp.r,Ha,C6,List.map_nil];generalize z.ev ρ=zv at h hz;generalize z.r.ev (ρA E)=za at hz ⊢;generalize y.ev ρ=yv at h hy;generalize y.r.ev (ρA E)=ya at hy ⊢;generalize x.ev ρ=v at h B;generalize x.r.ev (ρA E)=a at B ⊢;cases v<;>first|exact h.elim|skip
  cases yv<;>first|exact h.elim|skip
  cases zv<;>first|exact h.elim|skip
  cases B;cases hy;cases hz;dsimp only;rw[bn];exact .same C (.i _) h
 |ixAddrArr len size x i =>
  simp only[LOp.ok,Ac] at A;have B:=Gz D A.1;have hi:=Gz D A.2;simp only[F7] at h;simp only[LOp.r,Ha];generalize i.ev ρ=iv at h hi;generalize i.r.ev (ρA E)=ia at hi ⊢;generalize x.ev ρ=v at h B;generalize x.r.ev (ρA E)=a at B ⊢;cases iv<;>first|exact h.elim|skip
  cases hi;obtain⟨J,T,h⟩:=h;rename_i n;obtain⟨m,rfl⟩:=Af J;have b1:Nat.blt m len=true:=by unfold Nat.blt;exact Ak (by omega)
  cases v<;>first|exact h.elim|skip
  ·cases B with
   |ptr e =>
    show J8 P c G K (match Nat.blt m len with|true=>_|false=>_);rw[b1];refine .same C ?_ h;have e0:=AR.ptr (i:=0) e;rename_i p j o;show AR c (.ptr p (j+m*size)) (.ptr o 0 (j+m*size));exact .ptr e
  ·cases B with
   |dptr e hk Y =>
    show J8 P c G K (match Nat.blt m len with|true=>_|false=>_);rw[b1];exact .same C (.dptr e hk (fun q=>⟨by rw[(Y q).1];rfl,(Y q).2⟩)) h
  ·cases B with
   |cptr hf hr W =>
    show J8 P c G K (match Nat.blt m len with|true=>_|false=>_);rw[b1];refine .same C ?_ h;rename_i o vv jj ll;rw[show Nat.add (jj+_) (Nat.mul m size)=jj+(_+m*size) from Cs _ _ _];exact .cptr hf hr W
 |ixArr g len size x i =>
  simp only[LOp.ok,Ac] at A;have B:=Gz D A.1;have hi:=Gz D A.2;simp only[F7] at h;simp only[LOp.r,Ha];generalize i.ev ρ=iv at h hi;generalize i.r.ev (ρA E)=ia at hi ⊢;generalize x.ev ρ=v at h B;generalize x.r.ev (ρA E)=a at B ⊢;cases iv<;>first|exact h.elim|skip
  cases hi;obtain⟨J,T,h⟩:=h;rename_i n;obtain⟨m,rfl⟩:=Af J;have b1:Nat.blt m len=true:=by unfold Nat.blt;exact Ak (by omega)
  cases v<;>first|exact h.elim|skip
  cases B with
  |agg W =>
   show J8 P c G K (match Nat.blt m len with|true=>_|false=>_);rw[b1];simp only[A9] at h;cases g with
   |true =>
    obtain⟨J,T⟩:=h;have aE:=W.length;rename_i l';have b2:Nat.ble (Nat.add (Nat.mul m size) size) l'.length=true:=Ak (show m*size+size≤l'.length by rw[←aE];exact J);refine .ret C ?_;simp only[V1,Ru,b2];exact .mk (.agg ((W.drop _).take _)) T
   |false =>
    obtain⟨v,hv,h⟩:=h;obtain⟨a,I,F⟩:=W.get hv;refine .ret C ?_;simp only[V1];show Jz c _ (_);rw[show Nat.mul m size=m*size from rfl,I];exact .mk F h
 |lenArr n x =>
  simp only[F7] at h;simp only[LOp.r,Ha];exact .same C (.i _) h
 |appZ size z s x =>
  simp only[LOp.ok,Ac] at A;have hz:=jh c A.1.1;have aF:=Gz D A.1.2;have B:=Gz D A.2;simp only[F7] at h;simp only[LOp.r,Ha];generalize x.ev ρ=v at h B;generalize x.r.ev (ρA E)=a at B ⊢;split at h
  ·rename_i n;obtain⟨J,T,N,h4⟩:=h;obtain⟨m,rfl⟩:=Af J;cases B;have b1:Nat.ble m 1048576=true:=Ak (by omega);show J8 P c G K (match Nat.ble m 1048576 with
    |true=>Pb c.H size (s.r.ev (ρA E)) m (Lu (toAs z) m)
    |false=>.no)
   rw[b1];exact Q4 C aF (hz.rep m) (by rw[ye,N]) h4
  ·exact h.elim
 |appG size s x =>
  simp only[LOp.ok,Ac] at A;have aF:=Gz D A.1;have B:=Gz D A.2;simp only[F7] at h;simp only[LOp.r,Ha];obtain⟨n,l,l',I,F,O,L,Q⟩:=Q3 C B h;rw[I];have b1:Nat.ble n 1048576=true:=Ak L;dsimp only;rw[b1];exact Q4 C aF F O Q
 |copy size d x =>
  simp only[LOp.ok,Ac] at A;have hd:=Gz D A.1;have B:=Gz D A.2;simp only[F7] at h;simp only[LOp.r,Ha];obtain⟨n,l,l',I,F,O,L⟩:=Q3 C B h;rw[I];dsimp only;have aB:∀a b:Nat,Is a b=min a b:=fun a b=>by
   unfold Is;cases hb:Nat.ble a b with
   |true=>have:=As hb;simp only;omega
   |false =>
    have:¬a≤b:=fun q=>by rw[Ak q] at hb;cases hb
    simp only;omega
  generalize d.ev ρ=v at L hd;generalize d.r.ev (ρA E)=a at hd ⊢;split at L
  ·rename_i p k;split at L
   ·rename_i r len esz ad st X;obtain⟨af,rfl,h⟩:=L;cases hd with
    | @dy _ _ k' hh _ e hk Y _ =>
     obtain⟨r0,r1,V⟩:=C.obj p _ _ _ X e;have ah:=Y (by omega);rcases V with ⟨V,Z⟩|⟨o,v,room,t,aq,r',V,Z⟩
     ·subst Z;have:r=[]:=A0 (by simpa using r1);subst this;rw[ah,V];dsimp only;have hm:min n 0=0:=by omega
      rw[hm] at h;simp only[Dc,Eo] at h;obtain⟨p1,p2,_⟩:=C.upd (k':=k') (x':=hh) (ob':=.dyn (Gp [] 0 []) 0 esz ad (st+1)) (H':=c.H) X rfl e (Am _) (fun _ _ _=>rfl) (fun o e'=>⟨.inl e',C.lt o ⟨p,_,_,_,X,rfl,e,e'⟩⟩) (Am _) (fun _=>rfl) (fun _=>rfl) (.inl (B2 _))
       (fun _=>⟨r0,by simp[Gp],.inl ⟨V,rfl⟩⟩)
      exact⟨⟨c.hd.set p (k',hh),c.Fz,c.H⟩,.i (0:Nat),_,rfl,p1,p2,.i _,h⟩
     ·have hw:Oi G (.dptr p k 0) (l.take (min n len*esz)) (fun G'=>K (.i (min n len:Nat)) G'):=by
       unfold Oi;dsimp only;rw[X];refine⟨af,?_,h⟩;rw[r1,Cr,Bd];exact Bo (Nat.min_le_left _ _) (At _ (Nat.min_le_right _ _))
      obtain⟨o2,v2,i2,H',c',G',w1,w2,w3,w4,w5,w6⟩:=xo C (a:=.ptr o v 0) (.dptr e hk (fun _=>⟨rfl,len,esz,room,V⟩)) (F.take (min n len*esz)) hw;cases w1;rw[ah,V];dsimp only;rw[Bj,aB];dsimp only;rw[show Nat.mul (min n len) esz=min n len*esz from rfl,w2];exact⟨c',_,G',w3,w4,w5,.i _,w6⟩
   ·exact L.elim
  ·rename_i p k lo len;split at L
   ·rename_i r aj esz ad st X;obtain⟨af,rfl,hle,h⟩:=L;cases hd with
    | @vw _ _ _ _ k' hh _ e hk Y _ _ =>
     obtain⟨r0,r1,V⟩:=C.obj p _ _ _ X e;have ax:len=0→(a=.nilSl∨a=.emp∧lo≠0)→J8 P c G K (.val (.int .i64 0) c.H):=by
      intro aG _;subst aG;have hm:min n 0=0:=by omega
      rw[hm] at h;simp only[Dc,Eo] at h;have ay:Gp r (lo*esz) []=r:=by unfold Gp;simp
      rw[ay] at h;obtain⟨p1,p2,_⟩:=C.upd (k':=k') (x':=hh) (ob':=.dyn r aj esz ad (st+1)) (H':=c.H) X rfl e (Am _) (fun _ _ _=>rfl) (fun o e'=>⟨.inl e',C.lt o ⟨p,_,_,_,X,rfl,e,e'⟩⟩) (Am _) (fun _=>rfl) (fun _=>rfl) (.inl (B2 _))
       (fun az=>(C.obj p _ _ _ X e).mono az (fun _ _=>rfl))
      exact⟨⟨c.hd.set p (k',hh),c.Fz,c.H⟩,.i (0:Nat),_,rfl,p1,p2,.i _,h⟩
     rcases Y (by omega) with ⟨Z,r4⟩|⟨o,v,ag,H,room,M,Z,r4,r9⟩
     ·have:=ax Z r4;rcases r4 with rfl|⟨rfl,_⟩
      ·exact this
      ·exact this
     ·have e2:=e;rw[Z] at e2;obtain⟨_,w1,w2,w3,_⟩:=Xe C X e2;subst w2 w3;have hw:Oi G (.dptr p k (lo*H)) (l.take (min n len*H)) (fun G'=>K (.i (min n len:Nat)) G'):=by
       unfold Oi;dsimp only;rw[X];refine⟨af,?_,h⟩;rw[Cr];have J:min (min n len*H) l.length≤len*H:=Bo (Nat.min_le_left _ _) (At _ (Nat.min_le_right _ _));rw[Bb] at hle;omega
      obtain⟨o2,v2,i2,H',c',G',u1,u2,u3,u4,u5,u6⟩:=xo C (a:=.ptr o v (lo*H)) (.dptr e hk (fun _=>⟨rfl,ag,H,room,Z⟩)) (F.take (min n len*H)) hw;cases u1;rw[r4];dsimp only;rw[Bj,aB];dsimp only;rw[show Nat.mul (min n len) H=min n len*H from rfl,u2];exact⟨c',_,G',u3,u4,u5,.i _,u6⟩
   ·exact L.elim
  ·exact L.elim
 |clear size z x =>
  simp only[LOp.ok,Ac] at A;have hz:=jh c A.1;have B:=Gz D A.2;simp only[F7] at h;simp only[LOp.r,Ha];generalize x.ev ρ=v at h B;generalize x.r.ev (ρA E)=a at B ⊢;split at h
  ·rename_i p k lo len;split at h
   ·rename_i r aj esz ad st X;obtain⟨af,rfl,aM,hle,h⟩:=h;cases B with
    | @vw _ _ _ _ k' hh _ e hk Y _ _ =>
     obtain⟨r0,r1,V⟩:=C.obj p _ _ _ X e;have ax:len=0→J8 P c G K (.val J3 c.H):=by
      intro aG;subst aG;have ay:Gp r (lo*esz) (Hm z 0)=r:=by unfold Gp;simp[Hm]
      rw[ay] at h;obtain⟨p1,p2,_⟩:=C.upd (k':=k') (x':=hh) (ob':=.dyn r aj esz ad (st+1)) (H':=c.H) X rfl e (Am _) (fun _ _ _=>rfl) (fun o e'=>⟨.inl e',C.lt o ⟨p,_,_,_,X,rfl,e,e'⟩⟩) (Am _) (fun _=>rfl) (fun _=>rfl) (.inl (B2 _))
       (fun az=>(C.obj p _ _ _ X e).mono az (fun _ _=>rfl))
      exact⟨⟨c.hd.set p (k',hh),c.Fz,c.H⟩,.any,_,rfl,p1,p2,.any _,h⟩
     rcases Y (by omega) with ⟨Z,r4⟩|⟨o,v,ag,H,room,M,Z,r4,r9⟩
     ·have:=ax Z;rcases r4 with rfl|⟨rfl,_⟩
      ·exact this
      ·exact this
     ·have e2:=e;rw[Z] at e2;obtain⟨_,w1,w2,w3,_⟩:=Xe C X e2;subst w2 w3;have hw:Oi G (.dptr p k (lo*H)) (Hm z len) (fun G'=>K .any G'):=by
       unfold Oi;dsimp only;rw[X];refine⟨af,?_,h⟩;rw[ye,aM,←Bb];exact hle
      obtain⟨o2,v2,i2,H',c',G',u1,u2,u3,u4,u5,u6⟩:=xo C (a:=.ptr o v (lo*H)) (.dptr e hk (fun _=>⟨rfl,ag,H,room,Z⟩)) (hz.rep len) hw;cases u1;rw[r4];dsimp only;rw[Bj];dsimp only;rw[u2];exact⟨c',.any,G',u3,u4,u5,.any _,u6⟩
   ·exact h.elim
  ·exact h.elim
 |mkMap0=>exact zhb C h
 |mkMap1 x =>
  have B:=Gz D A;simp only[F7] at h;simp only[LOp.r,Ha];generalize x.ev ρ=v at h B;generalize x.r.ev (ρA E)=a at B ⊢;split at h
  ·cases B;exact zhb C h
  ·exact h.elim
 |lookup d z ok x i =>
  simp only[LOp.ok,Ac] at A;have hz:=T2 c A.1.1;have B:=Gz D A.1.2;have hi:=Gz D A.2;simp only[F7] at h;simp only[LOp.r,Ha];obtain⟨es,aN,I,F,O,_⟩:=zvy C B h;rw[I];dsimp only;rcases zt9 hi F O with ⟨f1,f2⟩|⟨v,b,f1,f2,f3⟩
  ·rw[f1];dsimp only;cases ok with
   |true=>exact .same C (.tup (.cons hz (.cons (.bool _) .nil))) f2
   |false=>exact .same C hz f2
  ·rw[f1];dsimp only;cases ok with
   |true=>exact .same C (.tup (.cons f2 (.cons (.bool _) .nil))) f3
   |false=>exact .same C f2 f3
 |mapUpd d m k v =>
  simp only[LOp.ok,Ac] at A;simp only[F7] at h;simp only[LOp.r,Ha];exact zzs C (Gz D A.1.1) (Gz D A.1.2) (Gz D A.2) h
 |lenMap x =>
  have B:=Gz D A;simp only[F7] at h;simp only[LOp.r,Ha];obtain⟨es,aN,I,F,O,L⟩:=zvy C B h;have hlen:∀{l:List (LV×LV×Nat)} {r:List (AV×AV×Nat)},MRs c l r→l.length=r.length:=by
   intro l r hr
   induction hr with
   |nil=>rfl
   |cons _ _ _ ih=>simp[ih]
  rcases L with ⟨e1,rfl⟩|⟨o,ck,e1,e2⟩
  ·rw[e1];cases F;exact .same C (.i 0) O
  ·rw[e1];dsimp only;rw[e2];dsimp only;rw[←hlen F];exact .same C (.i _) O
 |slArr n size x lo hi =>
  simp only[LOp.ok,Ac] at A;have B:=Gz D A.1.1;simp only[F7] at h;simp only[LOp.r,Ha];generalize x.ev ρ=v at h B;generalize x.r.ev (ρA E)=a at B ⊢;split at h
  ·rename_i p i;split at h
   ·rename_i l st X;obtain⟨h0,h⟩:=h;obtain⟨aa,U,I,F,O⟩:=Of D A.1.2 h;obtain⟨R,S,L,Q,q6⟩:=Of D A.2 O;rw[I,L];obtain⟨J,T,N⟩:=q6;cases B with
    | @ptr _ _ o e =>
     obtain⟨t,l',V,Z,r4⟩:=zmp C X e;obtain⟨a2,p1,p2,p3⟩:=z9l (lo:=aa) (hi:=R) (o:=o) (v:=0) (i:=i) (len:=n) (esz:=size) (room:=some n) (by rw[F,Q];exact J) (by rw[Q];exact T) (fun r e=>by cases e;exact Am _);have b1:Nat.ble (Nat.add i (Nat.mul n size)) l.length=true:=Ak h0;simp only[H8,V,b1];rw[p1];rw[F,Q] at p3;obtain⟨u1,u2⟩:=C.freeze (st:=st+1) X rfl (B2 _) e (rfl:Gb (.ptr o 0 0)=some o);have aJ:i+U*size+(S - U)*size≤l.length:=by
      rw[Cs,←Bb];have:(U+(S - U))*size≤n*size:=At _ (by omega);omega
     refine⟨⟨c.hd,fun q=>c.Fz q∨q=o,c.H⟩,_,_,rfl,u1,u2,?_,N⟩;rcases p3 with ⟨e1,rfl,_⟩|⟨room,rfl,ao⟩
     ·rw[e1];simp only[Dc,Eo];exact .lstEmp
     ·refine .lst (.inr rfl) ao (by simp;omega) (Pj V Z (Am _) aJ) (ARs.mono u2.le ((r4.drop _).take _))
   ·exact h.elim
  ·exact h.elim
 |callV f args =>
  simp only[LOp.ok,Ac] at A;have hf:=Gz D A.1;have Y:=zsy D A.2;simp only[F7] at h;simp only[LOp.r,Ha];generalize f.ev ρ=v at h hf;generalize f.r.ev (ρA E)=a at hf ⊢;split at h
  ·rename_i g l r;have aK:=h.1;cases hf with
   |fn W hr =>
    rename_i l' r';have key:zhs P c.H (.fn (.func g) l' r') ((ej args).map (·.ev (ρA E)))=.call (.fn g) (l'++(ej args).map (·.ev (ρA E))++r'):=by
     have k2:Ym P (.fn (.func g) l' r') ((ej args).map (·.ev (ρA E)))=.call (.fn g) (l'++(ej args).map (·.ev (ρA E))++r'):=by
      unfold Ym;dsimp only;rw[Ai aK.1]
     unfold zhs;split
     ·rename_i g' e;cases e;rw[aK.2];exact k2
     ·exact k2
    rw[key];exact⟨.fn g,_,rfl,(W.append Y).append hr,h⟩
  ·rename_i p r;cases hf with
   |yield e=>exact⟨.yield p,_,e,Y,h⟩
  ·exact h.elim
end res
end Go.Sv
noncomputable section
namespace Go.Sv
structure RI where
 d:Option Nat
 g:Option (Nat×Bool)
 o:ROp
def ig (n:Nat):Option Nat→Bool
 |none=>true
 |some d=>Nat.blt d n
def cj (P:Program)(n:Nat)(ops:Array Oper)(o:Oper):Option RI :=
 match ig n o.dst with
 |false=>none
 |true=>match Kx P o.op with
  |none=>none
  |some r=>match o.guard with
   |none=>some ⟨o.dst,none,r⟩
   |some (j,w)=>match (ops[j]?).bind (·.dst) with
    |none=>none
    |some t=>match Nat.ble t Io with
     |true=>some ⟨o.dst,some (t,w),r⟩
     |false=>none
def vp (P:Program)(n:Nat)(ops:Array Oper):List Oper→Option (List RI)
 |[]=>some []
 |o::l=>match cj P n ops o with
  |none=>none
  |some r=>match vp P n ops l with
   |none=>none
   |some rs=>some (r::rs)
structure LI where
 d:Option Nat
 g:Option (Nat×Bool)
 o:LOp
def LI.r (x:LI):RI:=⟨x.d,x.g,x.o.r⟩
def lis:List LI→List RI
 |[]=>[]
 |x::l=>x.r::lis l
def S8 (g:Option (Nat×Bool))(E:Tr AV):Bool:=match g with
 |none=>true
 |some (t,w)=>match E3 (Fl t) E with
  |some (.bool b)=>match b with
   |true=>w
   |false=>!w
  |_=>false
def X6 (P:Program)(x:RI)(k:Jh)(E:Tr AV)(H:Heap):OE:=match S8 x.g E with
 |false=>.ok (Hn x.d J3 E) H
 |true=>match Ha P (ρA E) H x.o with
  |.no=>.no
  |.val v H'=>.ok (Hn x.d v E) H'
  |.call t args=>match k t args H with
   |.no=>.no
   |.ok v H'=>.ok (Hn x.d v E) H'
def zg9 {P:Program}{n:Nat}{ops:Array Oper}{o:Oper}{x:RI}(h:cj P n ops o=some x)(k:Jh)(E:Tr AV)(H:Heap):(I8 P n ops o).run k E H=X6 P x k E H:=by
 unfold cj at h;cases hd:ig n o.dst with
 |false=>rw[hd] at h;cases h
 |true =>
  rw[hd] at h;dsimp only at h;cases l:Kx P o.op with
  |none=>rw[l] at h;cases h
  |some r =>
   rw[l] at h;dsimp only at h;have A:∃p,Jb n o.dst=some p∧∀a E,p.run a E=Hn o.dst a E:=by
    cases m:o.dst with
    |none=>exact⟨_,rfl,fun _ _=>rfl⟩
    |some d =>
     rw[m] at hd;have q:d<n:=As hd;unfold Jb;dsimp only;rw[Ai q];exact⟨_,rfl,fun _ _=>rfl⟩
   obtain⟨p,s,f⟩:=A;have B:x.d=o.dst∧x.o=r∧(Kz ops o).run E=S8 x.g E:=by
    cases g:o.guard with
    |none =>
     rw[g] at h;cases h;refine⟨rfl,rfl,?_⟩;unfold Kz;rw[g];rfl
    |some C =>
     obtain⟨j,w⟩:=C;rw[g] at h;dsimp only at h;cases y:(ops[j]?).bind (·.dst) with
     |none=>rw[y] at h;cases h
     |some t =>
      rw[y] at h;dsimp only at h;cases z:Nat.ble t Io with
      |false=>rw[z] at h;cases h
      |true =>
       rw[z] at h;cases h;refine⟨rfl,rfl,?_⟩;unfold Kz;rw[g];dsimp only;rw[y];dsimp only;rw[Ai (As z)];rfl
   obtain⟨D,F,I⟩:=B;unfold I8 X6;rw[s];dsimp only;rw[I,D,F,zs2 (zrp E) l H];cases S8 x.g E with
   |false=>simp only[f]
   |true =>
    dsimp only;cases Ha P (ρA E) H r with
    |no=>rfl
    |val v H'=>simp only[f]
    |call t args =>
     dsimp only;cases k t args H with
     |no=>rfl
     |ok v H'=>simp only[f]
def zv4 {P:Program}{x:RI}{k k':Jh}(hk:k.le k'){E f:Tr AV}{H H':Heap}(h:X6 P x k E H=.ok f H'):X6 P x k' E H=.ok f H':=by
 unfold X6 at h ⊢;cases g:S8 x.g E with
 |false=>rw[g] at h;exact h
 |true =>
  rw[g] at h;dsimp only at h ⊢;cases a:Ha P (ρA E) H x.o with
  |no=>rw[a] at h;cases h
  |val v j=>rw[a] at h;exact h
  |call t args =>
   rw[a] at h;dsimp only at h ⊢;cases d:k t args H with
   |no=>rw[d] at h;cases h
   |ok v j=>rw[d] at h;rw[hk _ _ _ _ _ d];exact h
def Kr (ρ:Ey)(d:Option Nat)(v:LV):Ey:=match d with
 |none=>ρ
 |some d=>(d,v)::ρ
def setL (t:Nat)(v:LV):Ey→Ey
 |[]=>[]
 |(d,x)::l=>if t=d then (d,v)::l else (d,x)::setL t v l
def Yn (v:LV)(A B Z:Prop):Prop:=match v with
 |.bool t=>Ma t A B
 |.tup []=>Z
 |_=>False
def R1 (P:Program)(x:LI)(ρ:Ey)(G:Ev)(K:Ey→Ev→Prop):Prop:=match x.g with
 |none=>F7 P ρ G x.o fun v G'=>K (Kr ρ x.d v) G'
 |some (t,true)=>Yn (lk ρ t) (F7 P (setL t (.bool true) ρ) G x.o fun v G'=>K (Kr (setL t (.bool true) ρ) x.d v) G') (K (Kr (setL t (.bool false) ρ) x.d (.tup [])) G) (K (Kr ρ x.d (.tup [])) G)
 |some (t,false)=>Yn (lk ρ t) (K (Kr (setL t (.bool true) ρ) x.d (.tup [])) G) (F7 P (setL t (.bool false) ρ) G x.o fun v G'=>K (Kr (setL t (.bool false) ρ) x.d v) G') (K (Kr ρ x.d (.tup [])) G)
def Wx {v:LV}{A B:Prop}(h:wc v A B):∃b,v=.bool b∧(b=true→A)∧(b=false→B):=by
 cases v with
 |bool b=>exact⟨b,rfl,h⟩
 |_=>exact h.elim
def znf {v:LV}{A B Z:Prop}(h:Yn v A B Z):(∃b,v=.bool b∧(b=true→A)∧(b=false→B))∨v=.tup []∧Z:=by
 unfold Yn at h;split at h
 ·exact .inl ⟨_,rfl,h⟩
 ·exact .inr ⟨rfl,h⟩
 ·exact h.elim
def zvo {P:Program}{x:LI}{t:Nat}{w:Bool}(a:x.g=some (t,w)){ρ:Ey}{G:Ev}{K:Ey→Ev→Prop}(h:R1 P x ρ G K) :
  (∃b,lk ρ t=.bool b∧(b=w→F7 P (setL t (.bool w) ρ) G x.o fun v G'=>K (Kr (setL t (.bool w) ρ) x.d v) G')∧(b=!w→K (Kr (setL t (.bool (!w)) ρ) x.d (.tup [])) G))∨lk ρ t=.tup []∧K (Kr ρ x.d (.tup [])) G:=by
 unfold R1 at h;rw[a] at h;cases w with
 |true=>exact znf h
 |false =>
  rcases znf h with ⟨b,e,d,f⟩|h
  ·exact .inl ⟨b,e,f,d⟩
  ·exact .inr h
def Mw (P:Program):List LI→Ey→Ev→(Ey→Ev→Prop)→Prop
 |[],ρ,G,K=>K ρ G
 |x::l,ρ,G,K=>R1 P x ρ G fun a G'=>Mw P l a G' K
def Gm.put {c:Cx}{ρ:Ey}{E:Tr AV}(h:Gm c ρ E){v:LV}{a:AV}(ha:AR c v a)(d:Option Nat):Gm c (Kr ρ d v) (Hn d a E):=by
 cases d with
 |none=>exact h
 |some d =>
  intro t;show AR c (lk ((d,v)::ρ) t) ((E3 (Fl t) (Hc a (Fl d) E)).getD J3);rw[zil,zz];by_cases e:t=d
  ·rw[Ai e,Ai e];exact ha
  ·rw[Ab e,Ab e];exact h t
def Q2 (t:Nat)(v:LV):∀(ρ:Ey) (a:Nat),lk (setL t v ρ) a=lk ρ a∨(a=t∧lk (setL t v ρ) a=v)
 |[],_=>.inl rfl
 |(d,x)::l,a=>by
  simp only[setL];by_cases h:t=d
  ·rw[Ai h];simp only[zz];by_cases f:a=d
   ·rw[Ai f];exact .inr ⟨by omega,rfl⟩
   ·rw[Ab f,Ab f];exact .inl rfl
  ·rw[Ab h];simp only[zz];by_cases f:a=d
   ·rw[Ai f,Ai f];exact .inl rfl
   ·rw[Ab f,Ab f];exact Q2 t v l a
def Gm.setL {c:Cx}{ρ:Ey}{E:Tr AV}(h:Gm c ρ E){t:Nat}{v:LV}(ha:AR c v ((E3 (Fl t) E).getD J3)):Gm c (Sv.setL t v ρ) E:=by
 intro t';rcases Q2 t v ρ t' with e|⟨rfl,e⟩
 ·rw[e];exact h t'
 ·rw[e];exact ha
section run
variable {P : Program} {c : Cx} {G : Ev}
def Xb (y:HSim c G){ρ:Ey}{E:Tr AV}(f:Gm c ρ E){x:LI}(B:x.o.ok=true){K:Ey→Ev→Prop}(h:R1 P x ρ G K) :
  ∃m q c' r G',X6 P x.r (Kq P (OL P) m) E c.H=.ok q c'.H∧HSim c' G'∧Step c G c' G'∧Gm c' r q∧K r G':=by
 have main:∀ρ,Gm c ρ E→(F7 P ρ G x.o fun v G'=>K (Kr ρ x.d v) G')→S8 x.g E=true→∃m q c' r G',X6 P x.r (Kq P (OL P) m) E c.H=.ok q c'.H∧HSim c' G'∧Step c G c' G'∧Gm c' r q∧K r G':=by
  intro ρ f h s;have l:=qw y f B h;unfold J8 at l;unfold X6;rw[show x.r.g=x.g from rfl,s];dsimp only[LI.r];cases he:Ha P (ρA E) c.H x.o.r with
  |no=>rw[he] at l;exact l.elim
  |val v1 H' =>
   rw[he] at l;obtain⟨c',v,G',rfl,C,z,I,J⟩:=l;exact⟨0,_,c',_,G',rfl,C,z,(f.mono z.le).put I x.d,J⟩
  |call t1 o =>
   rw[he] at l;obtain⟨t,args,L,C,_,z⟩:=l;obtain⟨m,v1,H',M,c',v,G',rfl,N,H,O,Q⟩:=z c t1 o y L C;refine⟨m,_,c',_,G',?_,N,H,(f.mono H.le).put O x.d,Q⟩;dsimp only;rw[M]
 cases g:x.g with
 |none =>
  unfold R1 at h;rw[g] at h;exact main ρ f h (by rw[g];rfl)
 |some R =>
  obtain⟨t,w⟩:=R;have s:=g;rcases zvo g h with ⟨b,D,h⟩|⟨D,h⟩
  rotate_left
  ·have j:=f t;rw[D] at j;have p:S8 x.g E=false:=by
    rw[s];unfold S8;dsimp only;cases A:E3 (Fl t) E with
    |none=>rfl
    |some a=>rw[A] at j;cases j;rfl
   refine⟨0,_,c,_,G,?_,y,.refl c G,f.put (.tup .nil) x.d,h⟩;unfold X6;rw[show x.r.g=x.g from rfl,p];rfl
  ·have j:=f t;rw[D] at j;have d:E3 (Fl t) E=some (.bool b):=by
    cases A:E3 (Fl t) E with
    |none=>rw[A] at j;cases j
    |some a=>rw[A] at j;cases j;rfl
   by_cases e:b=w
   ·refine main _ (f.setL (by rw[d,←e];exact .bool b)) (h.1 e) ?_;rw[s];unfold S8;dsimp only;rw[d,e];cases w<;>rfl
   ·have F:b=!w:=by cases b<;>cases w<;>simp_all
    refine⟨0,_,c,_,G,?_,y,.refl c G,(f.setL (by rw[d,←F];exact .bool b)).put (.tup .nil) x.d,h.2 F⟩;have p:S8 x.g E=false:=by
     rw[s];unfold S8;dsimp only;rw[d,F];cases w<;>rfl
    unfold X6;rw[show x.r.g=x.g from rfl,p];rfl
def Rd {n:Nat}{ops:Array Oper}:∀{l:List LI} {os:List Oper} {c:Cx} {G:Ev} {ρ:Ey} {E:Tr AV} {K:Ey→Ev→Prop},vp P n ops os=some (lis l)→l.all (·.o.ok)=true→HSim c G→Gm c ρ E→Mw P l ρ G K →
  ∃m w c' f G',(Xu P n ops os).run (Kq P (OL P) m) E c.H=.ok w c'.H∧HSim c' G'∧Step c G c' G'∧Gm c' f w∧K f G'
 |[],os,c,G,ρ,E,K,a,_,g,j,h=>by
  cases os with
  |nil=>exact⟨0,E,c,ρ,G,rfl,g,.refl c G,j,h⟩
  |cons o os =>
   simp only[vp] at a;split at a
   ·cases a
   ·split at a<;>cases a
 |x::l,os,c,G,ρ,E,K,a,d,g,j,h=>by
  cases os with
  |nil=>cases a
  |cons o os =>
   simp only[vp] at a;split at a
   ·cases a
   ·rename_i r p;split at a
    ·cases a
    ·rename_i rs q;simp only[lis,Option.some.injEq,List.cons.injEq] at a;obtain⟨rfl,rfl⟩:=a;simp only[Ct,Ac] at d;obtain⟨m1,E1,Q,R,S,z,y,A,B,C⟩:=Xb g j d.1 (show R1 P x ρ G fun f G'=>Mw P l f G' K from h);obtain⟨s,D,F,H,I,J,L,M,N,O⟩:=Rd q d.2 y B C;refine⟨max m1 s,D,F,H,I,?_,L,.trans g y A M,N,O⟩;simp only[Xu];rw[zg9 p,zv4 (Xz (Cw m1 s)) z];dsimp only;exact zbj (Xz (Dl m1 s)) J
end run
end Go.Sv
end
noncomputable section
namespace Go.Sv
inductive RC where
 |skip
 |ops (l:List RI)
 |draw (l:List (RI×List (RI×Bool)))
 |seq (a b:RC)
 |cond (c:Ox) (a b:RC)
 |block (id:Nat) (c:RC)
 |loop (c:RC)
 |rangeF (g:Ox) (ps:List Nat) (a b:RC)
 |exit (id:Nat)
 |scope (c:RC)
 |label
 |ret
 |stuck
inductive LC where
 |skip
 |ops (l:List LI)
 |draw (l:List (LI×List (LI×Bool)))
 |seq (a b:LC)
 |cond (c:Lx) (a b:LC)
 |block (id:Nat) (c:LC)
 |loop (c:LC)
 |rangeF (g:Lx) (ps:List Nat) (a b:LC)
 |exit (id:Nat)
 |scope (c:LC)
 |label
 |ret
 |stuck
def Ov (t:Nat):List Nat→Bool
 |[]=>false
 |a::l=>match Nat.beq t a with
  |true=>true
  |false=>Ov t l
def Qt (ops:Array Oper)(d:Option Nat)(x:DOp):Bool:=match d with
 |none=>true
 |some d=>match Ov d (Nf ops x.o) with
  |true=>false
  |false=>match x.o.dst with
   |none=>true
   |some e=>!(Nat.beq d e)
def Nj (x:DOp):Bool:=match x.c with
 |.al=>true
 |_=>false
def uy (P:Program)(n:Nat)(ops:Array Oper):List DOp→Option (List (RI×Bool))
 |[]=>some []
 |x::l=>match cj P n ops x.o with
  |none=>none
  |some r=>match uy P n ops l with
   |none=>none
   |some rs=>some ((r,Nj x)::rs)
def xq:Cls→Cls→Bool
 |.quiet,.quiet=>true
 |.rd,.rd=>true
 |.al,.al=>true
 |.ch,.ch=>true
 |_,_=>false
def qt (ops:Array Oper)(x:DOp):Bool:=match x.o.dst with
 |none=>false
 |some d=>!(Ov d (Nf ops x.o))
def iy (P:Program)(n:Nat)(ops:Array Oper):List DOp→List DOp→Option (List (RI×List (RI×Bool)))
 |[],_=>some []
 |x::l,pend=>match O5 (Qt ops x.o.dst) pend&&xq x.c (cls P x.o.op) with
  |false=>none
  |true=>match cj P n ops x.o with
   |none=>none
   |some r=>match x.c with
    |.quiet=>match iy P n ops l pend with
     |none=>none
     |some rs=>some ((r,[])::rs)
    |.rd=>match qt ops x with
     |false=>none
     |true=>match iy P n ops l (x::pend) with
      |none=>none
      |some rs=>some ((r,[])::rs)
    |.al=>match qt ops x with
     |false=>none
     |true=>match uy P n ops pend with
      |none=>none
      |some cs=>match iy P n ops l (x::pend) with
       |none=>none
       |some rs=>some ((r,cs)::rs)
    |.ch=>match uy P n ops (Ge (fun y=>!(Nat.testBit x.m y.i)) pend) with
     |none=>none
     |some cs=>match iy P n ops l (Ge (fun y=>!(Nat.testBit x.m y.i)) pend) with
      |none=>none
      |some rs=>some ((r,cs)::rs)
def zry (P:Program)(n:Nat)(ops:Array Oper):Option (List (RI×List (RI×Bool))) :=
 let L:=Ix P ops ops.toList [] 0;let chain:=Ge Fe L;let ord:=zyw L chain
 match zw5 ops.size L ord with
 |true=>iy P n ops ord []
 |false=>none
def F8 (P:Program)(n:Nat):Code→Option RC
 |.skip=>some .skip
 |.region _ ops draw=>match draw with
  |true=>match zry P n ops with
   |none=>some .stuck
   |some l=>some (.draw l)
  |false=>match vp P n ops ops.toList with
   |none=>some .stuck
   |some l=>some (.ops l)
 |.seq a b=>match F8 P n a with
  |none=>none
  |some a=>match F8 P n b with
   |none=>none
   |some b=>some (.seq a b)
 |.cond c a b=>match Gq c with
  |none=>none
  |some c=>match F8 P n a with
   |none=>none
   |some a=>match F8 P n b with
    |none=>none
    |some b=>some (.cond c a b)
 |.block id c=>match F8 P n c with
  |none=>none
  |some c=>some (.block id c)
 |.loop c=>match F8 P n c with
  |none=>none
  |some c=>some (.loop c)
 |.rangeFunc g d a b=>match Gq g with
  |none=>none
  |some g=>match F8 P n a with
   |none=>none
   |some a=>match F8 P n b with
    |none=>none
    |some b=>some (.rangeF g d.toList a b)
 |.exit id=>some (.exit id)
 |.scope c=>match F8 P n c with
  |none=>none
  |some c=>some (.scope c)
 |.label _=>some .label
 |.ret=>some .ret
 |_=>some .stuck
def rck:List (LI×Bool)→List (RI×Bool)
 |[]=>[]
 |(x,b)::l=>(x.r,b)::rck l
def jk:List (LI×List (LI×Bool))→List (RI×List (RI×Bool))
 |[]=>[]
 |(x,c)::l=>(x.r,rck c)::jk l
def LC.r:LC→RC
 |.skip=>.skip
 |.ops l=>.ops (lis l)
 |.draw l=>.draw (jk l)
 |.seq a b=>.seq a.r b.r
 |.cond c a b=>.cond c.r a.r b.r
 |.block id c=>.block id c.r
 |.loop c=>.loop c.r
 |.rangeF g ps a b=>.rangeF g.r ps a.r b.r
 |.exit id=>.exit id
 |.scope c=>.scope c.r
 |.label=>.label
 |.ret=>.ret
 |.stuck=>.stuck
def LC.ok:LC→Bool
 |.ops l=>l.all (·.o.ok)
 |.draw l=>l.all fun x=>x.1.o.ok&&x.2.all (·.1.o.ok)
 |.seq a b=>a.ok&&b.ok
 |.cond c a b=>c.ok&&a.ok&&b.ok
 |.block _ c=>c.ok
 |.loop c=>c.ok
 |.rangeF g _ a b=>g.ok&&a.ok&&b.ok
 |.scope c=>c.ok
 |_=>true
abbrev Ip:=Ex→Ey→List Nat→Ev→Prop
inductive DRs (c:Cx):List Nat→List Nat→Prop where
 |nil:DRs c [] []
 |cons {p o:Nat} {l r:List Nat} (h:c.hd[p]?=some (0,.ptr o 0 0)) (hs:DRs c l r):DRs c (p::l) (o::r)
def DRs.mono {c c':Cx}(h:CxLe c c'):∀{l r:List Nat},DRs c l r→DRs c' l r
 |_,_,.nil=>.nil
 |_,_,.cons e es=>.cons (h.fix e rfl) (DRs.mono h es)
def ROr (c:Cx):Option Nat→Option Nat→Prop
 |none,none=>True
 |some p,some o=>c.hd[p]?=some (0,.ptr o 0 0)
 |_,_=>False
def ROr.mono {c c':Cx}(h:CxLe c c'){a b:Option Nat}(k:ROr c a b):ROr c' a b:=by
 cases a<;>cases b<;>first|exact k|exact h.fix k rfl
def W (P:Program)(f n:Nat)(s:LC)(ro:Option Nat)(ρ:Ey)(D:List Nat)(G:Ev)(Q:Ip):Prop :=
 ∀(code:Code) (c:Cx) (E:Tr AV) (g:List Nat) (a:Option Nat),F8 P n code=some s.r→s.ok=true→HSim c G→Gm c ρ E→DRs c D g→ROr c ro a →
  ∃m x h d c' j l G',(Ig P f n code).run (Kq P (OL P) m) m a E g c.H=.ok x h d c'.H∧HSim c' G'∧Step c G c' G'∧Gm c' j h∧DRs c' l d∧Q x j l G'
section rules
variable {P : Program} {f n : Nat} {ro : Option Nat} {ρ : Ey} {D : List Nat} {G : Ev} {Q : Ip}
def W.post {s:LC}{Q':Ip}(h:W P f n s ro ρ D G Q)(hq:∀x ρ D G,Q x ρ D G→Q' x ρ D G):W P f n s ro ρ D G Q':=by
 intro code c E D1 aa h1 h2 h3 h4 h5 h6;obtain⟨m,x,E',ad,c',ρ',D',G',q1,q2,q3,q4,q5,q6⟩:=h code c E D1 aa h1 h2 h3 h4 h5 h6;exact⟨m,x,E',ad,c',ρ',D',G',q1,q2,q3,q4,q5,hq _ _ _ _ q6⟩
def U9 {code:Code}(h:F8 P n code=some .skip):code=.skip:=by
 cases code<;>simp only[F8] at h<;>first|rfl|(repeat' split at h)<;>cases h
def fh {code:Code}{l:List RI}(h:F8 P n code=some (.ops l)):∃id ops,code=.region id ops false∧vp P n ops ops.toList=some l:=by
 cases code<;>simp only[F8] at h<;>(repeat' split at h)<;>cases h;exact⟨_,_,rfl,‹_›⟩
def Vt {code:Code}{l:List (RI×List (RI×Bool))}(h:F8 P n code=some (.draw l)):∃id ops,code=.region id ops true∧zry P n ops=some l:=by
 cases code<;>simp only[F8] at h<;>(repeat' split at h)<;>cases h;exact⟨_,_,rfl,‹_›⟩
def fj {code:Code}{a b:RC}(h:F8 P n code=some (.seq a b)):∃d g,code=.seq d g∧F8 P n d=some a∧F8 P n g=some b:=by
 cases code<;>simp only[F8] at h<;>(repeat' split at h)<;>cases h;exact⟨_,_,rfl,‹_›,‹_›⟩
def Vd {code:Code}{x:Ox}{a b:RC}(h:F8 P n code=some (.cond x a b)):∃d g j,code=.cond d g j∧Gq d=some x∧F8 P n g=some a∧F8 P n j=some b:=by
 cases code<;>simp only[F8] at h<;>(repeat' split at h)<;>cases h;exact⟨_,_,_,rfl,‹_›,‹_›,‹_›⟩
def zx7 {code:Code}{id:Nat}{a:RC}(h:F8 P n code=some (.block id a)):∃d,code=.block id d∧F8 P n d=some a:=by
 cases code<;>simp only[F8] at h<;>(repeat' split at h)<;>cases h;exact⟨_,rfl,‹_›⟩
def Vb {code:Code}{a:RC}(h:F8 P n code=some (.loop a)):∃d,code=.loop d∧F8 P n d=some a:=by
 cases code<;>simp only[F8] at h<;>(repeat' split at h)<;>cases h;exact⟨_,rfl,‹_›⟩
def Uz {code:Code}{id:Nat}(h:F8 P n code=some (.exit id)):code=.exit id:=by
 cases code<;>simp only[F8] at h<;>(repeat' split at h)<;>cases h;rfl
def zyx {code:Code}{a:RC}(h:F8 P n code=some (.scope a)):∃d,code=.scope d∧F8 P n d=some a:=by
 cases code<;>simp only[F8] at h<;>(repeat' split at h)<;>cases h;exact⟨_,rfl,‹_›⟩
def zyf {code:Code}(h:F8 P n code=some .label):∃s,code=.label s:=by
 cases code<;>simp only[F8] at h<;>(repeat' split at h)<;>cases h;exact⟨_,rfl⟩
def Zk {code:Code}(h:F8 P n code=some .ret):code=.ret:=by
 cases code<;>simp only[F8] at h<;>first|rfl|(repeat' split at h)<;>cases h
def me (h:Q .normal ρ D G):W P f n .skip ro ρ D G Q:=by
 intro code c E a d g o j l m p;obtain rfl:=U9 g;exact⟨0,.normal,E,a,c,ρ,D,G,rfl,j,.refl c G,l,m,h⟩
def Y6 (h:Q .normal ρ D G):W P f n .label ro ρ D G Q:=by
 intro code c E a d g o j l m p;obtain⟨s,rfl⟩:=zyf g;exact⟨0,.normal,E,a,c,ρ,D,G,rfl,j,.refl c G,l,m,h⟩
def tw {id:Nat}(h:Q (.exit id) ρ D G):W P f n (.exit id) ro ρ D G Q:=by
 intro code c E a d g o j l m p;obtain rfl:=Uz g;exact⟨0,.exit id,E,a,c,ρ,D,G,rfl,j,.refl c G,l,m,h⟩
def W_ret (h:Q .ret ρ D G):W P f n .ret ro ρ D G Q:=by
 intro code c E a d g o j l m p;obtain rfl:=Zk g;exact⟨0,.ret,E,a,c,ρ,D,G,rfl,j,.refl c G,l,m,h⟩
def eh {s:LC}(h:W P f n s ro ρ D G Q):W P f n (.scope s) ro ρ D G Q:=by
 intro code c E g a j l m o p q;obtain⟨r,rfl,d⟩:=zyx j;exact h r c E g a d l m o p q
def yo {l:List LI}(h:Mw P l ρ G fun a G'=>Q .normal a D G'):W P f n (.ops l) ro ρ D G Q:=by
 intro code c E g j o p q r s C;obtain⟨id,ops,rfl,w⟩:=fh o;obtain⟨m,x,c',a,G',y,z,d,A,B⟩:=Rd w p q r h;refine⟨m,.normal,x,g,c',a,D,G',?_,z,d,A,s.mono d.le,B⟩;simp only[Ig];rw[y]
def yc {a b:LC}(h:W P f n a ro ρ D G fun x g j G'=>match x with
  |.normal=>W P f n b ro g j G' Q
  |x=>Q x g j G'):W P f n (.seq a b) ro ρ D G Q:=by
 intro code c E H l I r C J K F;obtain⟨L,M,rfl,N,O⟩:=fj I;simp only[LC.ok,Ac] at r;obtain⟨m,x,s,d,c',g,j,G',w,p,q,y,z,A⟩:=h L c E H l N r.1 C J K F;cases x with
 |normal =>
  obtain⟨o,x,R,S,T,U,B,V,X,Y,Z,r4,r5,r6⟩:=A M c' s d l O r.2 p y z (F.mono q.le);refine⟨max m o,x,R,S,T,U,B,V,?_,Y,.trans C p q Z,r4,r5,r6⟩;simp only[Ig];rw[kz (Xz (Cw m o)) (Cw m o) _ w];exact kz (Xz (Dl m o)) (Dl m o) _ X
 |exit id =>
  refine⟨m,.exit id,s,d,c',g,j,G',?_,p,q,y,z,A⟩;simp only[Ig];rw[w]
 |ret =>
  refine⟨m,.ret,s,d,c',g,j,G',?_,p,q,y,z,A⟩;simp only[Ig];rw[w]
def nv {x:Lx}{a b:LC}{t:Bool}(J:x.ev ρ=.bool t)(K:t=true→W P f n a ro ρ D G Q)(L:t=false→W P f n b ro ρ D G Q):W P f n (.cond x a b) ro ρ D G Q:=by
 intro code c E C g M h F j H I;obtain⟨R,N,O,rfl,l,o,p⟩:=Vd M;simp only[LC.ok,Ac] at h;have hv:=Gz j h.1.1;have r:=M8 l (zrp E);have s:x.r.ev (ρA E)=.bool t:=by
  rw[J] at hv;generalize x.r.ev (ρA E)=w at hv;cases hv;rfl
 rw[s] at r;cases t with
 |true =>
  obtain⟨m,x,y,d,c',z,A,G',B,q⟩:=K rfl N c E C g o h.1.2 F j H I;refine⟨m,x,y,d,c',z,A,G',?_,q⟩;simp only[Ig];rw[r];exact B
 |false =>
  obtain⟨m,x,y,d,c',z,A,G',B,q⟩:=L rfl O c E C g p h.2 F j H I;refine⟨m,x,y,d,c',z,A,G',?_,q⟩;simp only[Ig];rw[r];exact B
def Y0 {id:Nat}{s:LC}(h:W P f n s ro ρ D G fun x d g G'=>match x with
  |.exit i=>if i=id then Q .normal d g G' else Q (.exit i) d g G'
  |x=>Q x d g G'):W P f n (.block id s) ro ρ D G Q:=by
 intro code c E A y B C F H I J;obtain⟨K,rfl,z⟩:=zx7 B;obtain⟨m,x,l,a,c',d,g,G',o,p,q,r,w,j⟩:=h K c E A y z C F H I J;cases x with
 |normal =>
  refine⟨m,.normal,l,a,c',d,g,G',?_,p,q,r,w,j⟩;simp only[Ig];rw[o]
 |exit i =>
  dsimp only at j;by_cases e:i=id
  ·rw[Ai e] at j;refine⟨m,.normal,l,a,c',d,g,G',?_,p,q,r,w,j⟩;simp only[Ig];rw[o,e];dsimp only;rw[Bj]
  ·rw[Ab e] at j;refine⟨m,.exit i,l,a,c',d,g,G',?_,p,q,r,w,j⟩;simp only[Ig];rw[o];dsimp only;cases L:Nat.beq i id with
   |true=>exact absurd (Al L) e
   |false=>rfl
 |ret =>
  refine⟨m,.ret,l,a,c',d,g,G',?_,p,q,r,w,j⟩;simp only[Ig];rw[o]
def Ve {s:LC}(I:Ey→List Nat→Ev→Nat→Prop){N:Nat}(U:I ρ D G N)
  (h:∀N ρ D G,I ρ D G N→W P f n s ro ρ D G fun x d g G'=>match x with
   |.normal=>∃y,y<N∧I d g G' y
   |x=>Q x d g G'):W P f n (.loop s) ro ρ D G Q:=by
 intro code c E o l V X z F H A;obtain⟨T,rfl,J⟩:=Vb V;have key:∀N,∀(c:Cx) (E:Tr AV) (o:List Nat) (ρ:Ey) (D:List Nat) (G:Ev),I ρ D G N→HSim c G→Gm c ρ E→DRs c D o→ROr c ro l →
   ∃m p x j a c' d g G',Un ((Ig P f n T).run (Kq P (OL P) m) m l) p E o c.H=.ok x j a c'.H∧HSim c' G'∧Step c G c' G'∧Gm c' d j∧DRs c' g a∧Q x d g G':=by
  intro N
  induction N using Nat.strongRecOn with
  |_ N Y =>
   intro c E o ρ D G Z z F H A;obtain⟨m,x,j,a,c',d,g,G',r,B,C,K,L,M⟩:=h N ρ D G Z T c E o l J X z F H A;cases x with
   |normal =>
    obtain⟨y,hN,O⟩:=M;obtain⟨w,R,x,E2,D2,c2,ρ2,S,G2,r1,r2,r3,r4,r5,r6⟩:=Y y hN c' j a d g G' O B K L (A.mono C.le);refine⟨max m w,R+1,x,E2,D2,c2,ρ2,S,G2,?_,r2,.trans z B C r3,r4,r5,r6⟩;simp only[Un];rw[kz (Xz (Cw m w)) (Cw m w) _ r];exact zc8 (fun _ _ _ _ _ _ _ e=>kz (Xz (Dl m w)) (Dl m w) _ e) (Am _) r1
   |exit id =>
    refine⟨m,1,.exit id,j,a,c',d,g,G',?_,B,C,K,L,M⟩;simp only[Un];rw[r]
   |ret =>
    refine⟨m,1,.ret,j,a,c',d,g,G',?_,B,C,K,L,M⟩;simp only[Un];rw[r]
 obtain⟨m,p,x,j,a,c',d,g,G',r,q⟩:=key N c E o ρ D G U z F H A;refine⟨max m p,x,j,a,c',d,g,G',?_,q⟩;simp only[Ig];exact zc8 (fun _ _ _ _ _ _ _ e=>kz (Xz (Cw m p)) (Cw m p) _ e) (Dl m p) r
end rules
inductive RRes where
 |tmp (t:Nat)
 |cell1 (t:Nat)
 |cellN (t n:Nat)
def mi (P:Program):ResultVar→Option RRes
 |.tmp t=>match Nat.ble t Io with
  |true=>some (.tmp t)
  |false=>none
 |.cell a t=>match Nat.ble a Io with
  |true=>match Lh P t,Hk P t with
   |some true,some n=>some (.cellN a n)
   |some false,some _=>some (.cell1 a)
   |_,_=>none
  |false=>none
def O7 (P:Program):List ResultVar→Option (List RRes)
 |[]=>some []
 |r::l=>match mi P r with
  |none=>none
  |some a=>match O7 P l with
   |none=>none
   |some b=>some (a::b)
structure RF where
 n:Nat
 c:RC
 rs:List RRes
def Fg (P:Program)(f:Nat):Option RF :=
 match Y1 P f && !(vd P f) && !(ua P f) with
 |false=>none
 |true=>match P.funcs[f]? with
  |none=>none
  |some fn=>match fn.body with
   |none=>none
   |some b=>match Nat.ble fn.ntmps Io with
    |false=>none
    |true=>match F8 P fn.ntmps b with
     |none=>none
     |some c=>match O7 P fn.results.toList with
      |none=>none
      |some rs=>some ⟨fn.ntmps,c,rs⟩
def I7 (ρ:Ey)(G:Ev):List RRes→(List LV→Prop)→Prop
 |[],K=>K []
 |r::l,K=>match r with
  |.tmp t=>I7 ρ G l fun vs=>K (lk ρ t::vs)
  |.cell1 t=>Qp G (lk ρ t) fun v=>I7 ρ G l fun vs=>K (v::vs)
  |.cellN t n=>Qq G (lk ρ t) n fun cs=>I7 ρ G l fun vs=>K (.agg cs::vs)
def L6:List LV→LV
 |[v]=>v
 |l=>.tup l
def W8:List LV→Nat→Ey
 |[],_=>[]
 |v::l,i=>(i,v)::W8 l (i+1)
def Y9:List Nat→Ev→(Ev→Prop)→Prop
 |[],G,K=>K G
 |d::l,G,K=>match G[d]? with
  |some (.defd true)=>Y9 l (G.set d (.defd false)) K
  |_=>False
section fns
variable {P : Program}
def xi {c:Cx}{G:Ev}{ρ:Ey}{E:Tr AV}(p:HSim c G)(j:Gm c ρ E):∀{l:List ResultVar} {rs:List RRes} {K:List LV→Prop},O7 P l=some rs→I7 ρ G rs K→∃vs as,(ju P l).run E c.H=some as∧ARs c vs as∧K vs
 |[],rs,K,h,k=>by cases h;exact⟨[],[],rfl,.nil,k⟩
 |r::l,rs,K,h,k=>by
  simp only[O7] at h;split at h
  ·cases h
  ·rename_i a d;split at h
   ·cases h
   ·rename_i b y;cases h;simp only[ju];cases r with
    |tmp t =>
     simp only[mi] at d;split at d
     ·rename_i z;cases d;obtain⟨vs,as,q,s,x⟩:=xi p j y (show I7 ρ G b (fun vs=>K (lk ρ t::vs)) from k);have g:(Fq (.tmp t)).run E=some ((E3 (Fl t) E).getD J3):=by
       unfold Fq;dsimp only;rw[z];dsimp only;cases E3 (Fl t) E<;>rfl
      refine⟨_,_,?_,.cons (j t) s,x⟩;simp only[resF];rw[g,q]
     ·cases d
    |cell t ty =>
     simp only[mi] at d;split at d
     ·rename_i z;have g:(Fq (.tmp t)).run E=some ((E3 (Fl t) E).getD J3):=by
       unfold Fq;dsimp only;rw[z];dsimp only;cases E3 (Fl t) E<;>rfl
      split at d
      ·rename_i m A B;cases d;obtain⟨o,v,i,l',cs,C,F,H,I⟩:=zlo p (j t) (show Qq G (lk ρ t) m (fun cs=>I7 ρ G b fun vs=>K (.agg cs::vs)) from k);obtain⟨vs,as,q,s,x⟩:=xi p j y I;refine⟨_,_,?_,.cons (.agg H) s,x⟩;simp only[Sv.resF,A,B];rw[g,C];dsimp only;rw[F,q]
      ·rename_i m A B;cases d;obtain⟨o,v,i,w,bb,C,F,H,I⟩:=zsm p (j t) (show Qp G (lk ρ t) (fun v=>I7 ρ G b fun vs=>K (v::vs)) from k);obtain⟨vs,as,q,s,x⟩:=xi p j y I;refine⟨_,_,?_,.cons H s,x⟩;simp only[Sv.resF,A,B];rw[g,C];dsimp only;rw[F];dsimp only;rw[q]
      ·cases d
     ·cases d
end fns
end Go.Sv
end
namespace Go.Sv
section fns
variable {P : Program}
def lk_argsL:∀(l:List LV) (i t:Nat),lk (W8 l i) t=if i≤t∧t<i+l.length then l.getD (t - i) .any else .any
 |[],i,t=>by simp only[W8,T1,Bc];rw[Ab (by omega)]
 |v::l,i,t=>by
  simp only[W8,zz,Ar];rw[lk_argsL l (i+1) t];by_cases h:t=i
  ·subst h;rw[Ai rfl,Ai (by omega)];simp
  ·rw[Ab h];by_cases a:i+1≤t∧t<i+1+l.length
   ·rw[Ai a,Ai (by omega),show t - i=(t - (i+1))+1 from by omega];simp
   ·rw[Ab a,Ab (by omega)]
def Gm.start {c:Cx}{args:List LV}{aa:List AV}(h:ARs c args aa):Gm c (W8 args 0) (Ju aa 0 .e):=by
 intro t;rw[lk_argsL,get_ofList,Qz];have hl:=h.length;by_cases ht:t<args.length
 ·rw[Ai (by omega),Ai (by omega)];obtain⟨a,q1,q2⟩:=h.get (Ah ht);rw[Nat.sub_zero,q1,Ae,Ah ht];exact q2
 ·rw[Ab (by omega)];exact .any _
def zmf {K:Ev→Prop}:∀{D:List Nat} {l:List Nat} {c:Cx} {G:Ev},DRs c D l→HSim c G→Y9 D G K→∃c' G',qe l c.H=some c'.H∧HSim c' G'∧Step c G c' G'∧K G'
 |[],_,c,G,.nil,a,h=>⟨c,G,rfl,a,.refl c G,h⟩
 |d::D,_,c,G,.cons (o:=o) e es,a,h=>by
  simp only[Y9] at h;split at h
  ·rename_i g;obtain⟨_,m,he,f⟩:=a.obj d _ _ _ g e;injection he with he
   subst he;obtain⟨p,r,s⟩:=a.upd (k':=0) (x':=.ptr o 0 0) (ob':=.defd false) (H':=c.H.put o (.defd false)) g rfl e (Am _) (fun m _ j=>Heap.get_put_ne _ _ (fun q=>j (by rw[q];rfl)))
    (fun m w=>by cases w;exact⟨.inl rfl,a.lt o ⟨d,_,_,_,g,rfl,e,rfl⟩⟩) (Am _) (fun _=>rfl) (fun _=>rfl) (.inr ⟨rfl,Am _⟩) (fun _=>⟨rfl,o,rfl,Heap.get_put_same _ _ _⟩)
   obtain⟨c',G',x,y,z,A⟩:=zmf (es.mono s) p h;refine⟨c',G',?_,y,.trans a p r z,A⟩;simp only[qe];rw[f];exact x
  ·exact h.elim
def cd:List AV→AV
 |[v]=>v
 |l=>.tup l
def zv0 {f:Nat}{s:LC}{n:Nat}{rs:List RRes}(d:Fg P f=some ⟨n,s.r,rs⟩)(w:s.ok=true){args:List LV}(O:args.length≤n){G:Ev}{K:LV→Ev→Prop}
  (h:W P f n s none (W8 args 0) [] G fun x ρ D G'=>(match x with | .exit _=>False|_=>True)∧Y9 D G' fun r=>I7 ρ r rs fun vs=>K (L6 vs) r):Js P (.fn f) args G K:=by
 unfold Fg at d;split at d
 ·cases d
 ·rename_i j;simp only[Ac,Bs] at j;refine⟨j.1,fun c t1 l F H I=>?_⟩;cases t1 with
  |yield o=>exact H.elim
  |fn g =>
   obtain rfl:f=g:=H;split at d
   ·cases d
   ·rename_i fn y;split at d
    ·cases d
    ·rename_i b Q;split at d
     ·cases d
     ·rename_i p;split at d
      ·cases d
      ·rename_i rc z;split at d
       ·cases d
       ·rename_i R A;cases d;obtain⟨m,x,E',S,c',ρ',D',G',T,J,U,V,X,Y,Z⟩:=h b c _ [] none z w F (Gm.start I) .nil trivial;obtain⟨B,r,L,M,N,r4⟩:=zmf X J Z;obtain⟨vs,as,s1,s2,s3⟩:=xi M (V.mono N.le) A r4;have q:AR B (L6 vs) (cd as):=by
         cases s2 with
         |nil=>exact .tup .nil
         |cons e es =>
          cases es with
          |nil=>exact e
          |cons e2 C=>exact .tup (.cons e (.cons e2 C))
        refine⟨m+1,cd as,B.H,?_,B,L6 vs,r,rfl,M,.trans F J U N,q,s3⟩;unfold Kq;dsimp only;rw[zx j.2];dsimp only;unfold j2;rw[y];dsimp only;rw[Q];dsimp only;rw[Ai (As p)];dsimp only;have E:Nat.ble l.length fn.ntmps=true:=Ak (by rw[←I.length];exact O);rw[E];dsimp only;rw[T];dsimp only;cases x with
        |exit id=>exact Y.elim
        |normal =>
         dsimp only;rw[L];dsimp only;rw[s1];rcases as with _|⟨a,_|⟨a2,as⟩⟩<;>rfl
        |ret =>
         dsimp only;rw[L];dsimp only;rw[s1];rcases as with _|⟨a,_|⟨a2,as⟩⟩<;>rfl
def Js.mono {t:LTgt}{args:List LV}{G:Ev}{K K':LV→Ev→Prop}(h:Js P t args G K)(hk:∀v G,K v G→K' v G):Js P t args G K' :=
 ⟨h.1,fun c t1 aa h1 h2 h3=>by
  obtain⟨m,v1,H',q1,c',v,G',q2,q3,q4,q5,q6⟩:=h.2 c t1 aa h1 h2 h3;exact⟨m,v1,H',q1,c',v,G',q2,q3,q4,q5,hk _ _ q6⟩⟩
mutual
def LV.sim (m:Nat):LV→Bool
 |.bool _ |.u _ |.b _ |.i _ |.int _ _ |.str _ |.nilPtr |.nilSl |.nilMap |.nilFn |.nilIf=>true
 |.dy j k=>k==0&&decide (j<m)
 |.agg l=>sims m l
 |.tup l=>sims m l
 |_=>false
def sims (m:Nat):List LV→Bool
 |[]=>true
 |v::l=>v.sim m&&sims m l
end
mutual
def subV (sel:List LV):LV→LV
 |.dy j _=>sel.getD j .any
 |.agg l=>.agg (subVs sel l)
 |.tup l=>.tup (subVs sel l)
 |v=>v
def subVs (sel:List LV):List LV→List LV
 |[]=>[]
 |v::l=>subV sel v::subVs sel l
end
def notP (p:Nat):LV→Prop
 |.dy q _=>q≠p
 |_=>True
def Rn (G:Ev):List LV→Ev→Prop
 |[],[]=>True
 |.dy p k::s,.dyn l len esz a st::g=>a=0∧l.all LV.scal=true∧(∃d,G[p]?=some (.dyn l len esz k d))∧st=0∧(∀x∈s,notP p x)∧Rn G s g
 |.nilSl::s,.dyn l len _ a st::g=>a=0∧st=0∧l=[]∧len=0∧Rn G s g
 |_,_=>False
def Hg (P:Program)(f:Nat)(args:List LV)(h:LV)(g:Ev):Prop :=
 xj P (.fn f)∧h.sim g.length=true∧(∀(j:Nat) (ob:LObj),g[j]?=some ob→∃l len esz,ob=.dyn l len esz 0 0∧l.all LV.scal=true)∧∀(Fz:Nat→Prop) (H:Heap) (a:List AV),(∀o,Fz o→o<H.next)→ARs ⟨[],Fz,H⟩ args a →
  ∃m v1 d H',Kq P (OL P) m (.fn f) a H=.ok v1 H'∧HSim ⟨d,Fz,H'⟩ g∧AR ⟨d,Fz,H'⟩ h v1∧H.next≤H'.next∧(∀o,o<H.next→H'.get o=H.get o)∧∀o,Hw ⟨d,Fz,H'⟩ g o→H.next≤o
def zdx {c c':Cx}:∀{l:List LV} {r:List AV},l.all LV.scal=true→ARs c l r→ARs c' l r
 |[],_,_,.nil=>.nil
 |v::l,_,h,.cons e es=>by
  simp only[Ct,Ac] at h;refine .cons ?_ (zdx h.2 es);cases v<;>first|(cases h.1;done)|(cases e;constructor)
def HSim.empty {Fz:Nat→Prop}{H:Heap}(h:∀o,Fz o→o<H.next):HSim ⟨[],Fz,H⟩ [] :=
 ⟨rfl,h,fun o ⟨p,_,_,_,e,_⟩=>by simp at e,fun o ⟨p,_,_,_,e,_⟩=>by simp at e,fun p _ _ _ e=>by simp at e,fun p _ _ _ _ _ _ _ _ e=>by simp at e⟩
def zio {c:Cx}{G:Ev}(A:HSim c G):∀{sel:List LV} {B:Ev},Rn G sel B→∃g:List (Nat×AV),g.length=B.length ∧
  (∀(j:Nat) (ob:LObj) (k:Nat) (h:AV),B[j]?=some ob→g[j]?=some (k,h)→k=0∧(∀c':Cx,c'.H=c.H→jc c' 0 h ob)∧(∃l len esz,ob=.dyn l len esz 0 0∧l.all LV.scal=true) ∧
   ((sel[j]?=some .nilSl∧h=.nilSl)∨∃p k',sel[j]?=some (.dy p k')∧c.hd[p]?=some (k',h)∧(∀o,Gb h=some o→Hw c G o)∧∃m,G[p]?=some m∧m.live=true)) ∧
  (∀(i j p k q k':Nat),sel[i]?=some (.dy p k)→sel[j]?=some (.dy q k')→p=q→i=j)
 |[],[],_=>⟨[],rfl,fun j ob k h e=>by simp at e,fun i j p k q k' e=>by simp at e⟩
 |[],_::_,h=>h.elim
 |s::sel,[],h=>by cases s<;>exact h.elim
 |s::sel,ob::B,h=>by
  cases s<;>cases ob<;>first|exact h.elim|skip
  ·rename_i l len esz D st;obtain⟨rfl,rfl,rfl,rfl,h⟩:=h;obtain⟨g,E,F,H⟩:=zio A h;refine⟨(0,.nilSl)::g,by simp[E],fun j ob k h a d=>?_,fun i j p k q k' a d r=>?_⟩
   ·cases j with
    |zero =>
     simp only[A6,Option.some.injEq] at a d;cases a;cases d;exact⟨rfl,fun c' _=>⟨rfl,by simp,.inl ⟨rfl,rfl⟩⟩,⟨_,_,_,rfl,rfl⟩,.inl ⟨rfl,rfl⟩⟩
    |succ j=>exact F j ob k h (by simpa using a) (by simpa using d)
   ·cases i with
    |zero=>simp at a
    |succ i=>cases j with
     |zero=>simp at d
     |succ j=>have:=H i j p k q k' (by simpa using a) (by simpa using d) r;omega
  ·rename_i p k l len esz D st;obtain⟨rfl,w,⟨M,C⟩,rfl,I,h⟩:=h;obtain⟨g,E,F,H⟩:=zio A h;have N:p<c.hd.length:=by rw[A.len];exact (Aa.1 C).1
   obtain⟨W,O,J⟩:∃k h,c.hd[p]?=some (k,h):=⟨_,_,Ah N⟩;have x:=A.obj p _ _ _ C J;have hk:=x.1;subst hk;have f:∀(j q k':Nat),sel[j]?=some (.dy q k')→q≠p:=fun j q k' e=>I _ (A7 e)
   refine⟨(0,O)::g,by simp[E],fun j ob k h a d=>?_,fun i j L k q k' a d r=>?_⟩
   ·cases j with
    |zero =>
     simp only[A6,Option.some.injEq] at a d;cases a;cases d;refine⟨rfl,fun c' K=>?_,⟨_,_,_,rfl,w⟩,.inr ⟨p,_,rfl,J,fun o ho=>⟨p,_,_,_,C,rfl,J,ho⟩,_,C,rfl⟩⟩;obtain⟨_,Q,y⟩:=x;refine⟨rfl,Q,?_⟩;rcases y with y|⟨o,v,room,t,z,l',y,R,S,T,U,V⟩
     ·exact .inl y
     ·exact .inr ⟨o,v,room,t,z,l',y,by rw[K];exact R,S,T,zdx w U,V⟩
    |succ j=>exact F j ob k h (by simpa using a) (by simpa using d)
   ·cases i with
    |zero =>
     simp only[A6,Option.some.injEq] at a;cases a;cases j with
     |zero=>rfl
     |succ j=>exact absurd r.symm (f j q k' (by simpa using d))
    |succ i=>cases j with
     |zero =>
      simp only[A6,Option.some.injEq] at d;cases d;exact absurd r (f i L k (by simpa using a))
     |succ j=>have:=H i j L k q k' (by simpa using a) (by simpa using d) r;omega
mutual
def sub_AR {c c':Cx}{sel:List LV}(hsel:∀(j:Nat) (v:LV) (a:AV),sel[j]?=some v→AR c v a→AR c' (.dy j 0) a)(v:LV)(a:AV)(hsim:v.sim sel.length=true)(h:AR c (subV sel v) a):AR c' v a:=by
 cases v with
 |dy j k =>
  simp only[LV.sim,Ac,Du,Ao] at hsim;obtain⟨rfl,hjl⟩:=hsim;refine hsel j _ a (Ah hjl) ?_;unfold subV at h
  rwa [Ae,Ah hjl] at h
 |agg l =>
  simp only[LV.sim] at hsim;simp only[subV] at h;cases h with
  |agg h=>exact .agg (sub_ARs hsel l _ hsim h)
 |tup l =>
  simp only[LV.sim] at hsim;simp only[subV] at h;cases h with
  |tup h=>exact .tup (sub_ARs hsel l _ hsim h)
 |_=>first|(simp only[LV.sim] at hsim;cases hsim;done)|(simp only[subV] at h;cases h;constructor)
termination_by SizeOf.sizeOf v
def sub_ARs {c c':Cx}{sel:List LV}(hsel:∀(j:Nat) (v:LV) (a:AV),sel[j]?=some v→AR c v a→AR c' (.dy j 0) a)(l:List LV)(r:List AV)(hsim:sims sel.length l=true)(h:ARs c (subVs sel l) r):ARs c' l r:=by
 cases l with
 |nil=>simp only[subVs] at h;cases h;exact .nil
 |cons v l =>
  simp only[sims,Ac] at hsim;simp only[subVs] at h;cases h with
  |cons e es=>exact .cons (sub_AR hsel v _ hsim.1 e) (sub_ARs hsel l _ hsim.2 es)
termination_by SizeOf.sizeOf l
end
def Hg.mk {f:Nat}{args:List LV}{v0:LV}{G0:Ev}(ad:v0.sim G0.length=true)(h:Js P (.fn f) args [] fun v G=>∃sel,v=subV sel v0∧sel.length=G0.length∧Rn G sel G0)(hG:∀(j:Nat) (ob:LObj),G0[j]?=some ob→∃l len esz,ob=.dyn l len esz 0 0∧l.all LV.scal=true):Hg P f args v0 G0:=by
 refine⟨h.1,ad,hG,fun Fz H ah aj ha=>?_⟩;obtain⟨m,v1,H',q1,c1,v,G,rfl,q3,q4,q5,sel,rfl,hlen,hr⟩:=h.2 ⟨[],Fz,H⟩ (.fn f) ah (.empty aj) rfl ha;obtain⟨aa,r1,r2,r3⟩:=zio q3 hr;have ao:∀(j:Nat) (ob:LObj),G0[j]?=some ob→∃k h,aa[j]?=some (k,h):=fun j ob e=>⟨_,_,Ah (by rw[r1];exact (Aa.1 e).1)⟩
 have af:∀o,Hw ⟨aa,Fz,c1.H⟩ G0 o→Hw c1 G o:=by
  rintro o ⟨j,ob,k,h,e1,e2,e3,e4⟩;obtain⟨_,_,_,s4⟩:=r2 j ob k h e1 e3;rcases s4 with ⟨_,s4⟩|⟨p,k',_,_,s6,_⟩
  ·rw[s4] at e4;cases e4
  ·exact s6 o e4
 have ag:∀o,Hw ⟨aa,Fz,c1.H⟩ G0 o→H.next≤o:=fun o ho=>by
  rcases q4.new o (af o ho) with ⟨p,_,_,_,e,_⟩|h
  ·simp at e
  ·exact h
 have ap:∀o,¬Hw ⟨[],Fz,H⟩ [] o:=fun o ⟨p,_,_,_,e,_⟩=>by simp at e
 have aq:HSim ⟨aa,Fz,c1.H⟩ G0:=by
  refine⟨r1,fun o ho=>Bg (aj o ho) q4.nx,fun o ho=>q3.lt o (af o ho),fun o ho hf=>?_,fun j ob k h e1 e2=>?_,fun i j ob ob' k h k' h' o e1 e2 e3 e4 e5 e6 e7 e8=>?_⟩
  ·have:=ag o ho;have:=aj o hf;omega
  ·obtain⟨s1,s2,_⟩:=r2 j ob k h e1 e2;rw[s1];exact s2 _ rfl
  ·obtain⟨_,_,_,s4⟩:=r2 i ob k h e1 e5;obtain⟨_,_,_,t4⟩:=r2 j ob' k' h' e2 e6;rcases s4 with ⟨_,s4⟩|⟨p,kp,s5,s6,_,o1,g1,g2⟩
   ·rw[s4] at e7;cases e7
   ·rcases t4 with ⟨_,t4⟩|⟨q,kq,t5,t6,_,o2,g3,g4⟩
    ·rw[t4] at e8;cases e8
    ·refine r3 i j p kp q kq s5 t5 ?_;exact q3.excl p q o1 o2 kp h kq h' o g1 g3 g2 g4 s6 t6 e7 e8
 refine⟨m,v1,aa,c1.H,q1,aq,?_,q4.nx,fun o ho=>q4.frame o ho (ap o),ag⟩;refine sub_AR (c:=c1) (fun j v a e1 e2=>?_) v0 v1 (by rw[hlen];exact ad) q5;have hj:j<G0.length:=by rw[←hlen];exact (Aa.1 e1).1
 obtain⟨k,h,e3⟩:=ao j _ (Ah hj);obtain⟨rfl,_,_,s4⟩:=r2 j _ k h (Ah hj) e3;rcases s4 with ⟨s4,s5⟩|⟨p,k',s4,s5,_⟩
 ·rw[e1] at s4;cases s4;cases e2;exact .dy e3 (Am _) (fun _=>s5.symm) rfl
 ·rw[e1] at s4;cases s4;cases e2 with
  |dy f1 f2 f3 f4 =>
   rw[s5] at f1;cases f1;exact .dy e3 (Am _) (fun _=>f3 rfl) f4
end fns
end Go.Sv
noncomputable section
namespace Go.Sv
def Zt (ρ:Ey)(G:Ev):LOp→Option (Option Nat)
 |.load1 x |.loadN _ x=>match x.ev ρ with
  |.ptr p _=>some (some p)
  |.dptr p k _=>match G[p]? with
   |some (.dyn _ _ _ a _)=>if k=a then some (some p) else none
   |_=>none
  |.cptr _ _=>some none
  |_=>none
 |.cvStr x=>match x.ev ρ with
  |.nilSl=>some none
  |.lst _ _ _=>some none
  |.dy p k=>match G[p]? with
   |some (.dyn _ _ _ a _)=>if k=a then some (some p) else none
   |_=>none
  |_=>none
 |_=>none
def ki (G G':Ev)(p:Nat):Prop:=match G[p]?,G'[p]? with
 |some a,some b=>a.stp=true∧a.st=b.st
 |_,_=>False
def oc (ρ:Ey)(G G':Ev)(x:LI×Bool):Prop:=match x.2 with
 |false=>match Zt ρ G x.1.o with
  |some none=>True
  |some (some p)=>ki G G' p
  |none=>False
 |true=>match x.1.d with
  |none=>False
  |some d=>match lk ρ d with
   |.ptr p _=>ki G G' p
   |.dy p k=>(match G[p]? with
    |some (.dyn _ _ _ a _)=>k=a
    |_=>False)∧ki G G' p
   |_=>False
def ckL (ρ:Ey)(G G':Ev)(x:LI×Bool):Prop:=match x.1.g with
 |none=>oc ρ G G' x
 |some (t,w)=>match lk ρ t with
  |.bool b=>b=w→oc ρ G G' x
  |_=>oc ρ G G' x
def Oq (ρ:Ey)(G G':Ev):List (LI×Bool)→Prop
 |[]=>True
 |x::l=>ckL ρ G G' x∧Oq ρ G G' l
def S4 (P:Program):List (LI×List (LI×Bool))→Ey→Ev→(Ey→Ev→Prop)→Prop
 |[],ρ,G,K=>K ρ G
 |(x,cs)::l,ρ,G,K=>R1 P x ρ G fun a G'=>Oq ρ G G' cs∧S4 P l a G' K
section al
variable {P : Program}
def zxp {v:AV}{id n:Nat}(h:Gb v=some id):Iv id (Iv n v)=v:=by
 cases v<;>first|(cases h;done)|(cases h;rfl)
def zkz {H H1:Heap}{l:List AV}{v:AV}(h:Qd H l=.val v H1):∃ob,H1=H.push ob∧Gb v=some H.next∧∀a,Qd a l=.val (Iv a.next v) (a.push ob):=by
 unfold Qd newObj at h;cases h;exact⟨_,rfl,rfl,fun a=>rfl⟩
def znr {H H1:Heap}{l:List AV}{a b:Nat}{r:Option Nat}{v:AV}(h:(match newObj H l with
  |some (o,H')=>OR.val (.sl o 0 0 a b r) H'
  |none=>.no)=.val v H1):∃ob,H1=H.push ob∧Gb v=some H.next∧∀d,(match newObj d l with
  |some (o,H')=>OR.val (.sl o 0 0 a b r) H'
  |none=>.no)=.val (Iv d.next v) (d.push ob):=by
 unfold newObj at h;cases h;exact⟨_,rfl,rfl,fun d=>rfl⟩
def oz {o:Op}(d:cls P o=.al){E:Tr AV}{H H1:Heap}{v:AV}(h:(Gg P o).run E H=.val v H1):∃ob,H1=H.push ob∧Gb v=some H.next∧∀g,(Gg P o).run E g=.val (Iv g.next v) (g.push ob):=by
 cases o with
 |alloc t =>
  simp only[Gg] at h ⊢;split at h
  ·exact zkz h
  ·cases h
 |box t x =>
  simp only[Gg,Ik] at h ⊢;cases j:(Fq x).run E with
  |none=>rw[j] at h;cases h
  |some a =>
   rw[j] at h;dsimp only at h ⊢;cases p:a.cells with
   |none=>rw[p] at h;cases h
   |some l=>rw[p] at h;exact zkz h
 |buildSlice t len parts =>
  simp only[Gg,ik] at h ⊢;split at h
  ·split at h
   ·cases h
   ·split at h
    ·cases h
    ·rename_i z A;by_cases s:len * ‹Nat›≤2^20∧0 < ‹Nat›
     ·rw[Ai s] at h ⊢;split at h
      ·cases h
      ·dsimp only at h ⊢;split at h
       ·exact znr h
       ·cases h
     ·rw[Ab s] at h;cases h
  ·cases h
 |makeSlice t l c =>
  simp only[Gg,gq] at h ⊢;split at h
  ·split at h
   ·cases h
   ·split at h
    ·cases h
    ·split at h
     ·rename_i i hi z A s;simp only[Ai s];simp only[Lp] at h ⊢;cases p:(Fq l).run E with
      |none=>rw[p] at h;cases h
      |some a =>
       rw[p] at h;cases q:(Fq c).run E with
       |none=>rw[q] at h;cases h
       |some b =>
        rw[q] at h;dsimp only at h ⊢;split at h
        ·rename_i n m;cases w:Nat.ble n m with
         |false=>rw[w] at h;cases h
         |true =>
          rw[w] at h;cases y:Nat.ble m 1048576 with
          |false=>rw[y] at h;cases h
          |true=>rw[y] at h;exact znr h
        ·cases h
     ·cases h
  ·cases h
 |makeMap t r =>
  have pm:∀{v:AV} {H1:Heap},Rq H=.val v H1→∃ob,H1=H.push ob∧Gb v=some H.next∧∀g,Rq g=.val (Iv g.next v) (g.push ob):=fun h=>by
   unfold Rq at h;cases h;exact⟨_,rfl,rfl,fun g=>rfl⟩
  simp only[Gg,j0] at h ⊢;split at h
  ·exact pm h
  ·rename_i x;split at h
   ·simp only[Ik] at h ⊢;cases j:(Fq x).run E with
    |none=>rw[j] at h;cases h
    |some a =>
     rw[j] at h;dsimp only at h ⊢;split at h
     ·exact pm h
     ·cases h
   ·cases h
 |_ =>
  exfalso;simp only[cls] at d
  first
   |(cases d;done)
   |(split at d<;>first|(cases d;done)|(split at d<;>cases d))
   |(simp only[uw] at d;split at d<;>first|(cases d;done)|(split at d<;>first|(cases d;done)|(split at d<;>cases d)))
end al
section draw
variable {P : Program} {n : Nat} {ops : Array Oper}
def Nd (P:Program)(ops:Array Oper)(x:DOp)(E:Tr AV)(H:Heap):Prop:=match x.c with
 |.rd=>(Kz ops x.o).run E=true→∃d v,x.o.dst=some d∧E3 (Fl d) E=some v∧(Gg P x.o.op).run E H=.val v H
 |.al=>(Kz ops x.o).run E=true→∃d v id ob,x.o.dst=some d∧E3 (Fl d) E=some v∧Gb v=some id∧H.get id=some ob∧∀a,(Gg P x.o.op).run E a=.val (Iv a.next v) (a.push ob)
 |_=>True
def z9x {x:DOp}{E:Tr AV}{H:Heap}(h:Nd P ops x E H)(g:x.c=.rd∨x.c=.al)(hd:qt ops x=true):(Sr P ops x).run E H=true:=by
 unfold Sr;cases a:x.o.dst with
 |none=>unfold qt at hd;rw[a] at hd;cases hd
 |some d =>
  dsimp only;cases o:(Kz ops x.o).run E with
  |false=>rfl
  |true =>
   dsimp only;unfold Nd at h;rcases g with g|g
   ·rw[g] at h;obtain⟨p,v,j,m,l⟩:=h o;rw[a] at j;cases j;rw[m,l,g];dsimp only;unfold Ql;split
    ·rfl
    ·exact @B4 _ (Classical.propDecidable _) rfl
   ·rw[g] at h;obtain⟨p,v,id,ob,j,m,l,q,r⟩:=h o;rw[a] at j;cases j;rw[m,r H,g];dsimp only;unfold zvm;rw[l];dsimp only;have s:Ql (Jr 30 v (Iv id (Iv H.next v))) v (Iv id (Iv H.next v))=true:=by
     unfold Ql;split
     ·rfl
     ·exact @B4 _ (Classical.propDecidable _) (zxp l).symm
    rw[s,q,Heap.get_push_same];dsimp only;unfold Ql;split
    ·rfl
    ·exact @B4 _ (Classical.propDecidable _) rfl
def zdu {t:Nat}:∀{l:List Nat},Ov t l=false→t ∉ l
 |[],_=>by simp
 |a::l,h=>by
  simp only[Ov] at h;cases d:Nat.beq t a with
  |true=>rw[d] at h;cases h
  |false =>
   rw[d] at h;intro hm;rcases An.1 hm with rfl|hm
   ·rw[Bj] at d;cases d
   ·exact zdu h hm
def Ui {x:DOp}{d:Option Nat}(h:Qt ops d x=true)(v:AV)(E:Tr AV):J9 (Nf ops x.o) (Hn d v E) E∧∀e,x.o.dst=some e→E3 (Fl e) (Hn d v E)=E3 (Fl e) E:=by
 cases d with
 |none=>exact⟨fun t _ _=>rfl,fun e _=>rfl⟩
 |some d =>
  unfold Qt at h;dsimp only at h;cases hm:Ov d (Nf ops x.o) with
  |true=>rw[hm] at h;cases h
  |false =>
   rw[hm] at h;dsimp only at h;refine⟨fun t a _=>?_,fun e he=>?_⟩
   ·show E3 (Fl t) (Hc v (Fl d) E)=_;rw[m9 (fun q=>zdu hm (by rw[←q];exact a))]
   ·rw[he] at h;dsimp only at h;show E3 (Fl e) (Hc v (Fl d) E)=_;rw[m9 (fun q=>by rw[q,Bj] at h;cases h)]
def Nd.put {x:DOp}{E:Tr AV}{H:Heap}(h:Nd P ops x E H){d:Option Nat}(ho:Qt ops d x=true)(v:AV):Nd P ops x (Hn d v E) H:=by
 obtain⟨h1,h2⟩:=Ui ho v E;have hg:=iq (o:=x.o) h1;have hc:∀H2,(Gg P x.o.op).run (Hn d v E) H2=(Gg P x.o.op).run E H2:=fun H2=>z89 h1
 unfold Nd at h ⊢;cases hx:x.c with
 |rd =>
  rw[hx] at h;intro g;obtain⟨d',w,k1,k2,k3⟩:=h (by rw[←hg];exact g);exact⟨d',w,k1,by rw[h2 d' k1];exact k2,by rw[hc];exact k3⟩
 |al =>
  rw[hx] at h;intro g;obtain⟨d',w,id,ob,k1,k2,k3,k4,k5⟩:=h (by rw[←hg];exact g);exact⟨d',w,id,ob,k1,by rw[h2 d' k1];exact k2,k3,k4,fun H2=>by rw[hc];exact k5 H2⟩
 |quiet=>trivial
 |ch=>trivial
def Sd {x:DOp}{r:RI}(a:cj P n ops x.o=some r)(E:Tr AV):(Kz ops x.o).run E=S8 r.g E∧Kx P x.o.op=some r.o∧r.d=x.o.dst:=by
 unfold cj at a;split at a
 ·cases a
 ·split at a
  ·cases a
  ·rename_i ro d;split at a
   ·rename_i g;cases a;refine⟨?_,d,rfl⟩;unfold Kz;rw[g];rfl
   ·rename_i j w g;split at a
    ·cases a
    ·rename_i t h;split at a
     ·rename_i l;cases a;refine⟨?_,d,rfl⟩;unfold Kz;rw[g];dsimp only;rw[h];dsimp only;rw[Ai (As l)];rfl
     ·cases a
def Nd.keep {x:DOp}{li:LI}(hr:cj P n ops x.o=some li.r)(af:li.o.ok=true){c c1:Cx}{G G1:Ev}{ρ:Ey}{E:Tr AV}(hs:HSim c G)(hE:Gm c ρ E)(st:Step c G c1 G1)(ad:ckL ρ G G1 (li,Nj x))
  (h:Nd P ops x E c.H):Nd P ops x E c1.H:=by
 have ah:∀{p k:Nat} {a:AV} {o:Nat},ki G G1 p→c.hd[p]?=some (k,a)→Gb a=some o→c1.H.get o=c.H.get o:=by
  intro p k a o hk e1 e2;unfold ki at hk;split at hk
  ·rename_i a1 b1 g1 g2;exact (st.st p a1 b1 k a o g1 g2 e1 e2 hk.1 hk.2).2.1
  ·exact hk.elim
 obtain⟨g1,g2,g3⟩:=Sd hr E;have aj:(Kz ops x.o).run E=true→oc ρ G G1 (li,Nj x):=by
  intro g;rw[g1] at g;unfold ckL at ad;dsimp only at ad;split at ad
  ·exact ad
  ·rename_i t w hg;split at ad
   ·rename_i b hb;refine ad ?_;have ht:=hE t;rw[hb] at ht;rw[show li.r.g=li.g from rfl,hg] at g;unfold S8 at g;dsimp only at g;cases hq:E3 (Fl t) E with
    |none=>rw[hq] at g;cases g
    |some a =>
     rw[hq] at g ht;cases ht;cases b<;>cases w<;>first|rfl|cases g
   ·exact ad
 unfold Nd at h ⊢;cases hx:x.c with
 |quiet=>trivial
 |ch=>trivial
 |rd =>
  rw[hx] at h;intro g;have hc:=aj g;obtain⟨d,v,k1,k2,k3⟩:=h g;refine⟨d,v,k1,k2,?_⟩;rw[zs2 (zrp E) g2] at k3 ⊢;have aq:Nj x=false:=by unfold Nj;rw[hx]
  unfold oc at hc;rw[aq] at hc;dsimp only at hc;have ap:∀{y:Lx},y.ok=true→∀m,(match y.ev ρ with
    |.ptr p _=>some (some p)
    |.dptr p k _=>(match G[p]? with
     |some (.dyn _ _ _ ag _)=>if k=ag then some (some p) else none
     |_=>none)
    |.cptr _ _=>some none
    |_=>(none:Option (Option Nat)))=some m→(∀p,m=some p→ki G G1 p)→∃o v i,y.r.ev (ρA E)=.ptr o v i∧c1.H.get o=c.H.get o:=by
   intro y hy m hm hk;have hv:=Gz hE hy;generalize y.ev ρ=w at hm hv;generalize y.r.ev (ρA E)=b at hv ⊢;split at hm
   ·rename_i p i;cases hm;cases hv with
    |ptr e=>exact⟨_,_,_,rfl,ah (hk p rfl) e rfl⟩
   ·rename_i p k i;split at hm
    ·rename_i l len esz ag stp hg;by_cases ao:k=ag
     ·rw[Ai ao] at hm;cases hm;cases hv with
      | @dptr _ _ _ k' o v j hh e aw ha =>
       have:=(hs.obj p _ _ _ hg e).1;obtain⟨_,aB,aC,room,rfl⟩:=ha (by omega);exact⟨o,v,j,rfl,ah (hk p rfl) e rfl⟩
     ·rw[Ab ao] at hm;cases hm
    ·cases hm
   ·cases hm;cases hv with
    |cptr hf hr hl=>exact⟨_,_,_,rfl,(st.le.fz _ hf).2⟩
   ·cases hm
  have fin:∀m,Zt ρ G li.o=some m→(∀p,m=some p→ki G G1 p)→Ha P (ρA E) c1.H li.r.o=.val v c1.H:=by
   intro m hm hk;have aa:Ha P (ρA E) c.H li.o.r=.val v c.H:=k3;show Ha P (ρA E) c1.H li.o.r=_;unfold Zt at hm;split at hm
   ·rename_i y ho;rw[ho] at aa af ⊢;obtain⟨o,w,i,q1,q2⟩:=ap af m hm hk;simp only[LOp.r,Ha] at aa ⊢;rw[q1] at aa ⊢;dsimp only at aa ⊢;rw[nq q2];split at aa
    ·cases aa;rfl
    ·cases aa
   ·rename_i nn y ho;rw[ho] at aa af ⊢;obtain⟨o,w,i,q1,q2⟩:=ap af m hm hk;simp only[LOp.r,Ha] at aa ⊢;rw[q1] at aa ⊢;dsimp only at aa ⊢;rw[nq q2];split at aa
    ·cases aa;rfl
    ·cases aa
   ·rename_i y ho;rw[ho] at aa af ⊢;have hv:=Gz hE af;simp only[LOp.r,Ha] at aa ⊢;generalize y.ev ρ=w at hm hv;generalize y.r.ev (ρA E)=b at hv aa ⊢;have done:(∀o v i len esz room,b=.sl o v i len esz room→c1.H.get o=c.H.get o)→(match b with
      |.nilSl=>OR.val (.str 0 0) c1.H
      |.sl o v i len 1 _=>match Jd c1.H o v i len with
       |some l=>match O1.bytesA l with
        |some n=>.val (.str len n) c1.H
        |none=>.no
       |none=>.no
      |_=>.no)=.val v c1.H:=by
     intro hh;split at aa
     ·cases aa;rfl
     ·rename_i o v2 i len room;have e:=hh o v2 i len 1 room rfl;show (match Jd c1.H o v2 i len with
       |some l=>match O1.bytesA l with
        |some n=>OR.val (.str len n) c1.H
        |none=>.no
       |none=>.no)=.val v c1.H
      rw[nq e];split at aa
      ·rename_i ay;split at aa
       ·rename_i hb;cases aa;rw[ay];dsimp only;rw[hb]
       ·cases aa
      ·cases aa
     ·cases aa
    split at hm
    ·cases hv;exact done (fun _ _ _ _ _ _ e=>by cases e)
    ·cases hm;cases hv with
     |lst hf aD hlen hr hl=>exact done (fun _ _ _ _ _ _ e=>by cases e;exact (st.le.fz _ hf).2)
     |lstNil=>exact done (fun _ _ _ _ _ _ e=>by cases e)
     |lstEmp=>exact done (fun _ _ _ _ _ _ e=>by cases e)
    ·rename_i p k;split at hm
     ·rename_i l len esz ag stp hg;by_cases ao:k=ag
      ·rw[Ai ao] at hm;cases hm;cases hv with
       | @dy _ _ k' hh _ e aw ha az =>
        have:=(hs.obj p _ _ _ hg e).1;have ar:=ha (by omega);exact done (fun o v i len esz room eb=>ah (hk p rfl) e (by rw[←ar,eb];rfl))
      ·rw[Ab ao] at hm;cases hm
     ·cases hm
    ·cases hm
   ·cases hm
  split at hc
  ·rename_i hm;exact fin none hm (fun p e=>by cases e)
  ·rename_i p hm;exact fin (some p) hm (fun p' e=>by cases e;exact hc)
  ·exact hc.elim
 |al =>
  rw[hx] at h;intro g;have hc:=aj g;obtain⟨d,v,id,ob,k1,k2,k3,k4,k5⟩:=h g;refine⟨d,v,id,ob,k1,k2,k3,?_,k5⟩;have aq:Nj x=true:=by unfold Nj;rw[hx]
  unfold oc at hc;rw[aq] at hc;dsimp only at hc;have hd:li.d=some d:=by rw[←k1];exact g3
  rw[hd] at hc;dsimp only at hc;have hv:=hE d;rw[k2] at hv;split at hc
  ·rename_i p i hl;rw[hl] at hv;cases hv with
   |ptr e=>cases k3;rw[ah hc e rfl];exact k4
  ·rename_i p k hl;rw[hl] at hv;obtain⟨ax,aA⟩:=hc;split at ax
   ·rename_i l len esz ag stp hg;cases hv with
    | @dy _ _ k' hh _ e aw ha az =>
     have:=(hs.obj p _ _ _ hg e).1;have ar:v=hh:=ha (by omega);rw[ah aA e (by rw[←ar];exact k3)];exact k4
   ·exact ax.elim
  ·exact hc.elim
def cks_mem:∀{pend:List DOp} {cs:List (LI×Bool)},uy P n ops pend=some (rck cs)→∀{ρ:Ey} {G G':Ev},Oq ρ G G' cs→∀x∈pend,∃d,cj P n ops x.o=some d.r∧(d,Nj x)∈cs∧ckL ρ G G' (d,Nj x)
 |[],_,_,_,_,_,_,x,a=>by simp at a
 |y::pend,[],h,_,_,_,_,x,a=>by
  simp only[uy] at h;split at h
  ·cases h
  ·split at h<;>cases h
 |y::pend,(d,b)::cs,h,ρ,G,G',k,x,a=>by
  simp only[uy] at h;split at h
  ·cases h
  ·rename_i r l;split at h
   ·cases h
   ·rename_i rs g;simp only[rck,Option.some.injEq,List.cons.injEq,Prod.mk.injEq] at h;obtain⟨⟨rfl,rfl⟩,m⟩:=h;rw[m] at g;rcases An.1 a with rfl|a
    ·exact⟨d,l,by simp,k.1⟩
    ·obtain⟨j,o,p,q⟩:=cks_mem g k.2 x a;exact⟨j,o,by simp[p],q⟩
def zd8 {α:Type}{f:α→Bool}:∀{l:List α} {x:α},x∈Ge f l→x∈l
 |[],_,h=>h
 |a::l,x,h=>by
  simp only[Ge] at h;split at h
  ·rcases An.1 h with rfl|h
   ·simp
   ·exact Az _ (zd8 h)
  ·exact Az _ (zd8 h)
def zgw {α:Type}{f:α→Bool}:∀{l:List α},O5 f l=true→∀x∈l,f x=true
 |[],_,x,d=>by simp at d
 |a::l,h,x,d=>by
  simp only[O5] at h;split at h
  ·rename_i g;rcases An.1 d with rfl|d
   ·exact g
   ·exact zgw h x d
  ·cases h
def zd4 {E:Tr AV}{H:Heap}:∀{l:List DOp},(∀x∈l,(Sr P ops x).run E H=true)→(fq P ops l).run E H=true
 |[],_=>rfl
 |x::l,h=>by
  simp only[fq];rw[h x (by simp)];exact zd4 (fun y a=>h y (by simp[a]))
structure Pend (P:Program) (n:Nat) (ops:Array Oper) (x:DOp):Prop where
 cls:x.c=.rd∨x.c=.al
 own:qt ops x=true
def drawGo_ok:∀{l pend:List DOp} {items:List (LI×List (LI×Bool))} {c:Cx} {G:Ev} {ρ:Ey} {E:Tr AV} {K:Ey→Ev→Prop},iy P n ops l pend=some (jk items)→(items.all fun x=>x.1.o.ok&&x.2.all (·.1.o.ok))=true →
  HSim c G→Gm c ρ E→(∀x∈pend,Pend P n ops x∧Nd P ops x E c.H)→S4 P items ρ G K →
  ∃m N c' J G',(Nh P n ops l pend).run (Kq P (OL P) m) E c.H=.ok N c'.H∧HSim c' G'∧Step c G c' G'∧Gm c' J N∧K J G'
 |[],pend,items,c,G,ρ,E,K,h,_,hs,hE,_,k=>by
  cases items with
  |nil=>exact⟨0,E,c,ρ,G,rfl,hs,.refl c G,hE,k⟩
  |cons _ _=>cases h
 |x::l,pend,items,c,G,ρ,E,K,h,C,hs,hE,hp,k=>by
  simp only[iy] at h;split at h
  ·cases h
  ·rename_i af;rw[Ac] at af;obtain⟨X,z⟩:=af;split at h
   ·cases h
   ·rename_i r hr;have head:∀{li:LI} {cs:List (LI×Bool)} {B:List (LI×List (LI×Bool))},r=li.r→items=(li,cs)::B →
      ∃m E1 F W O v,(I8 P n ops x.o).run (Kq P (OL P) m) E c.H=.ok E1 F.H∧E1=Hn x.o.dst v E∧HSim F O∧Step c G F O∧Gm F W E1∧Oq ρ G O cs∧S4 P B W O K:=by
     intro li cs B e1 e2;subst e2;simp only[Ct,Ac] at C;obtain⟨m,E1,F,W,O,R,S,q3,Y,q5,q6⟩:=Xb hs hE C.1.1 (show R1 P li ρ G (fun J G'=>Oq ρ G G' cs∧S4 P B J G' K) from k);rw[←e1,←zg9 hr] at R;obtain⟨v,w1,_⟩:=z5q R;exact⟨m,E1,F,W,O,v,R,w1,S,q3,Y,q5,q6⟩
    have Z:∀{v:AV},∀y∈pend,Nd P ops y E c.H→Nd P ops y (Hn x.o.dst v E) c.H:=fun y s hv=>hv.put (zgw X y s) _
    have go:∀{pend':List DOp} {B:List (LI×List (LI×Bool))} {m:Nat} {E1:Tr AV} {F:Cx} {W:Ey} {O:Ev},iy P n ops l pend'=some (jk B)→(B.all fun x=>x.1.o.ok&&x.2.all (·.1.o.ok))=true→HSim F O→Step c G F O→Gm F W E1 →
      (∀y∈pend',Pend P n ops y∧Nd P ops y E1 F.H)→S4 P B W O K→(I8 P n ops x.o).run (Kq P (OL P) m) E c.H=.ok E1 F.H →
      ∃m' N c' J G',(I8 P n ops x.o).run (Kq P (OL P) m') E c.H=.ok E1 F.H∧(Nh P n ops l pend').run (Kq P (OL P) m') E1 F.H=.ok N c'.H∧HSim c' G'∧Step c G c' G'∧Gm c' J N∧K J G':=by
     intro pend' B m E1 F W O a1 a2 a3 a4 a5 a6 a7 a8;obtain⟨m2,N,c',J,G',b1,b2,b3,b4,b5⟩:=drawGo_ok a1 a2 a3 a5 a6 a7;exact⟨max m m2,N,c',J,G',vj (Xz (Cw m m2)) a8,uf (Xz (Dl m m2)) b1,b2,.trans hs a3 a4 b3,b4,b5⟩
    cases M:x.c with
    |quiet =>
     rw[M] at h;dsimp only at h;split at h
     ·cases h
     ·rename_i rs T;cases items with
      |nil=>cases h
      |cons it B =>
       obtain⟨li,cs⟩:=it;simp only[jk,Option.some.injEq,List.cons.injEq,Prod.mk.injEq] at h;obtain⟨⟨h1,h2⟩,h3⟩:=h;obtain⟨m,E1,F,W,O,v,R,S,q3,Y,q5,q6,q7⟩:=head h1 rfl;simp only[Ct,Ac] at C;have hH:F.H=c.H:=by
        have hc:cls P x.o.op=.quiet:=by
         rw[M] at z;cases A:cls P x.o.op<;>rw[A] at z<;>first|rfl|cases z
        exact z5s (wi.1 hc).reads R
       obtain⟨m',N,c',J,G',b1,b2,b3,b4,b5,b6⟩:=go (pend':=pend) (by rw[←h3];exact T) C.2 q3 Y q5 (fun y s=>⟨(hp y s).1,by rw[hH,S];exact Z y s (hp y s).2⟩) q7 R;refine⟨m',N,c',J,G',?_,b3,b4,b5,b6⟩;simp only[Nh];rw[M];dsimp only;rw[b1];exact b2
    |rd =>
     rw[M] at h;dsimp only at h;split at h
     ·cases h
     ·rename_i j;split at h
      ·cases h
      ·rename_i rs T;cases items with
       |nil=>cases h
       |cons it B =>
        obtain⟨li,cs⟩:=it;simp only[jk,Option.some.injEq,List.cons.injEq,Prod.mk.injEq] at h;obtain⟨⟨h1,h2⟩,h3⟩:=h;obtain⟨m,E1,F,W,O,v,R,S,q3,Y,q5,q6,q7⟩:=head h1 rfl;simp only[Ct,Ac] at C;have hc:cls P x.o.op=.rd:=by
         rw[M] at z;cases A:cls P x.o.op<;>rw[A] at z<;>first|rfl|cases z
        have hH:F.H=c.H:=z5s (wi.2 hc) R;have I:Nd P ops x E1 F.H:=by
         unfold Nd;rw[M];intro g;unfold qt at j;cases p:x.o.dst with
         |none=>rw[p] at j;cases j
         |some d =>
          rw[p] at j;have hm:Ov d (Nf ops x.o)=false:=by simpa using j
          have H:J9 (Nf ops x.o) E1 E:=fun t ht _=>by
           rw[S,p];show E3 (Fl t) (Hc v (Fl d) E)=_;rw[m9 (fun q=>zdu hm (by rw[←q];exact ht))]
          rw[iq H] at g;refine⟨d,v,rfl,by rw[S,p];exact Yb _ _ _,?_⟩;rw[z89 H,hH];have A:=R;unfold I8 at A;cases U:Jb n x.o.dst with
          |none=>rw[U] at A;cases A
          |some pf =>
           rw[U] at A;dsimp only at A;rw[g] at A;dsimp only at A;have ad:=(wi.2 hc) E c.H;cases L:(Gg P x.o.op).run E c.H with
           |no=>rw[L] at A;cases A
           |call t a=>rw[L] at ad;cases ad
           |val w H2 =>
            rw[L] at A ad;cases ad;injection A with e1 e2
            have:=congrArg (fun E=>E3 (Fl d) E) e1;rw[S,(zan U).1,p,Yb,Yb] at this;cases this;rfl
        obtain⟨m',N,c',J,G',b1,b2,b3,b4,b5,b6⟩:=go (pend':=x::pend) (by rw[←h3];exact T) C.2 q3 Y q5 (fun y s=>by
         rcases An.1 s with rfl|s
         ·exact⟨⟨.inl M,j⟩,I⟩
         ·exact⟨(hp y s).1,by rw[hH,S];exact Z y s (hp y s).2⟩) q7 R
        refine⟨m',N,c',J,G',?_,b3,b4,b5,b6⟩;simp only[Nh];rw[M];dsimp only;rw[b1];exact b2
    |al =>
     rw[M] at h;dsimp only at h;split at h
     ·cases h
     ·rename_i j;split at h
      ·cases h
      ·rename_i aj aa;split at h
       ·cases h
       ·rename_i rs T;cases items with
        |nil=>cases h
        |cons it B =>
         obtain⟨li,cs⟩:=it;simp only[jk,Option.some.injEq,List.cons.injEq,Prod.mk.injEq] at h;obtain⟨⟨h1,h2⟩,h3⟩:=h;obtain⟨m,E1,F,W,O,v,R,S,q3,Y,q5,q6,q7⟩:=head h1 rfl;simp only[Ct,Ac] at C;have hc:cls P x.o.op=.al:=by
          rw[M] at z;cases A:cls P x.o.op<;>rw[A] at z<;>first|rfl|cases z
         rw[h2] at aa;have hold:∀y∈pend,Pend P n ops y∧Nd P ops y E1 F.H:=fun y s=>by
          obtain⟨ag,w1,w2,w3⟩:=cks_mem aa q6 y s;have V:ag.o.ok=true:=Cb.1 C.1.2 _ w2;refine⟨(hp y s).1,?_⟩;rw[S];exact ((hp y s).2.keep w1 V hs hE Y w3).put (zgw X y s) _
         have I:Nd P ops x E1 F.H:=by
          unfold Nd;rw[M];intro g;unfold qt at j;cases p:x.o.dst with
          |none=>rw[p] at j;cases j
          |some d =>
           rw[p] at j;have hm:Ov d (Nf ops x.o)=false:=by simpa using j
           have H:J9 (Nf ops x.o) E1 E:=fun t ht _=>by
            rw[S,p];show E3 (Fl t) (Hc v (Fl d) E)=_;rw[m9 (fun q=>zdu hm (by rw[←q];exact ht))]
           rw[iq H] at g;have A:=R;unfold I8 at A;cases U:Jb n x.o.dst with
           |none=>rw[U] at A;cases A
           |some pf =>
            rw[U] at A;dsimp only at A;rw[g] at A;dsimp only at A;cases L:(Gg P x.o.op).run E c.H with
            |no=>rw[L] at A;cases A
            |call t a =>
             exfalso;have:=zsr (o:=x.o) hc E c.H;rw[L] at this;exact this
            |val w H2 =>
             rw[L] at A;injection A with e1 e2
             have:=congrArg (fun E=>E3 (Fl d) E) e1;rw[S,(zan U).1,p,Yb,Yb] at this;cases this;obtain⟨ob,u1,u2,u3⟩:=oz hc L;refine⟨d,_,c.H.next,ob,rfl,by rw[S,p];exact Yb _ _ _,u2,?_,fun H3=>by rw[z89 H];exact u3 H3⟩;rw[←e2,u1];exact Heap.get_push_same _ _
         obtain⟨m',N,c',J,G',b1,b2,b3,b4,b5,b6⟩:=go (pend':=x::pend) (by rw[←h3];exact T) C.2 q3 Y q5 (fun y s=>by
          rcases An.1 s with rfl|s
          ·exact⟨⟨.inr M,j⟩,I⟩
          ·exact hold y s) q7 R
         refine⟨m',N,c',J,G',?_,b3,b4,b5,b6⟩;simp only[Nh];rw[M];dsimp only;rw[b1];dsimp only;rw[zd4 (fun y s=>by
          rcases An.1 s with rfl|s
          ·exact z9x I (.inr M) j
          ·exact z9x (hold y s).2 (hold y s).1.cls (hold y s).1.own)]
         exact b2
    |ch =>
     rw[M] at h;dsimp only at h;split at h
     ·cases h
     ·rename_i aj aa;split at h
      ·cases h
      ·rename_i rs T;cases items with
       |nil=>cases h
       |cons it B =>
        obtain⟨li,cs⟩:=it;simp only[jk,Option.some.injEq,List.cons.injEq,Prod.mk.injEq] at h;obtain⟨⟨h1,h2⟩,h3⟩:=h;obtain⟨m,E1,F,W,O,v,R,S,q3,Y,q5,q6,q7⟩:=head h1 rfl;simp only[Ct,Ac] at C;rw[h2] at aa;have hold:∀y∈Ge (fun y=>!(Nat.testBit x.m y.i)) pend,Pend P n ops y∧Nd P ops y E1 F.H:=fun y s=>by
         have ah:=zd8 s;obtain⟨ag,w1,w2,w3⟩:=cks_mem aa q6 y s;have V:ag.o.ok=true:=Cb.1 C.1.2 _ w2;refine⟨(hp y ah).1,?_⟩;rw[S];exact ((hp y ah).2.keep w1 V hs hE Y w3).put (zgw X y ah) _
        obtain⟨m',N,c',J,G',b1,b2,b3,b4,b5,b6⟩:=go (pend':=Ge (fun y=>!(Nat.testBit x.m y.i)) pend) (by rw[←h3];exact T) C.2 q3 Y q5 hold q7 R;refine⟨m',N,c',J,G',?_,b3,b4,b5,b6⟩;simp only[Nh];rw[M];dsimp only;rw[b1];dsimp only;rw[zd4 (fun y s=>z9x (hold y s).2 (hold y s).1.cls (hold y s).1.own)];exact b2
end draw
section rule
variable {P : Program} {f n : Nat} {ro : Option Nat} {ρ : Ey} {D : List Nat} {G : Ev} {Q : Ip}
def tq {l:List (LI×List (LI×Bool))}(h:S4 P l ρ G fun d G'=>Q .normal d D G'):W P f n (.draw l) ro ρ D G Q:=by
 intro code c E j o p q r s w H;obtain⟨id,ops,rfl,a⟩:=Vt p;unfold zry at a;dsimp only at a;split at a
 ·rename_i hd;obtain⟨m,y,c',d,G',z,A,g,B,C⟩:=drawGo_ok a q r s (fun x F=>by simp at F) h;refine⟨m,.normal,y,j,c',d,D,G',?_,A,g,B,w.mono g.le,C⟩;simp only[Ig,pg];rw[hd];dsimp only;rw[z]
 ·cases a
end rule
end Go.Sv
end
namespace Go.Sv
mutual
def LV.dat:LV→Bool
 |.any=>true
 |.bool _ |.u _ |.b _ |.i _ |.int _ _ |.str _ |.nilPtr |.nilSl |.nilMap |.nilFn |.nilIf=>true
 |.cptr l _=>dats l
 |.lst l _ _=>dats l
 |.fn (.func _) l r=>dats l&&dats r
 |.iface _ v=>v.dat
 |.agg l=>dats l
 |.tup l=>dats l
 |_=>false
def dats:List LV→Bool
 |[]=>true
 |v::l=>v.dat&&dats l
end
mutual
def AR.dat {c c':Cx}(hfz:∀o,c.Fz o→c'.Fz o∧c'.H.get o=c.H.get o)(v:LV)(a:AV)(hd:v.dat=true)(h:AR c v a):AR c' v a:=by
 cases v with
 |cptr l i =>
  simp only[LV.dat] at hd;cases h with
  |cptr hf hr hl=>exact .cptr (hfz _ hf).1 (by rw[nq (hfz _ hf).2];exact hr) (ARs.dat hfz l _ hd hl)
 |lst l len esz =>
  simp only[LV.dat] at hd;cases h with
  |lst hf hrm hlen hr hl=>exact .lst (hfz _ hf).1 hrm hlen (by rw[nq (hfz _ hf).2];exact hr) (ARs.dat hfz l _ hd hl)
  |lstNil=>exact .lstNil
  |lstEmp=>exact .lstEmp
 |fn f l r =>
  cases f with
  |func f =>
   simp only[LV.dat,Ac] at hd;cases h with
   |fn hl hr=>exact .fn (ARs.dat hfz l _ hd.1 hl) (ARs.dat hfz r _ hd.2 hr)
  |_=>simp[LV.dat] at hd
 |iface t w =>
  simp only[LV.dat] at hd;cases h with
  |iface h=>exact .iface (AR.dat hfz w _ hd h)
 |agg l =>
  simp only[LV.dat] at hd;cases h with
  |agg h=>exact .agg (ARs.dat hfz l _ hd h)
 |tup l =>
  simp only[LV.dat] at hd;cases h with
  |tup h=>exact .tup (ARs.dat hfz l _ hd h)
 |any=>exact .any a
 |_=>first|(simp only[LV.dat] at hd;cases hd;done)|(cases h;constructor)
termination_by SizeOf.sizeOf v
def ARs.dat {c c':Cx}(hfz:∀o,c.Fz o→c'.Fz o∧c'.H.get o=c.H.get o)(l:List LV)(r:List AV)(hd:dats l=true)(h:ARs c l r):ARs c' l r:=by
 cases l with
 |nil=>cases h;exact .nil
 |cons v l =>
  simp only[dats,Ac] at hd;cases h with
  |cons e es=>exact .cons (AR.dat hfz v _ hd.1 e) (ARs.dat hfz l _ hd.2 es)
termination_by SizeOf.sizeOf l
end
def dats_app:∀{l r:List LV},dats l=true→dats r=true→dats (l++r)=true
 |[],_,_,h=>h
 |v::l,r,h,k=>by
  simp only[dats,Ac] at h;simp only[Bi,dats,Ac];exact⟨h.1,dats_app h.2 k⟩
def dats_take:∀{l:List LV} (n:Nat),dats l=true→dats (l.take n)=true
 |_,0,_=>by simp[dats]
 |[],n+1,_=>by simp[dats]
 |v::l,n+1,h=>by
  simp only[dats,Ac] at h;simp only[List.take_succ_cons,dats,Ac];exact⟨h.1,dats_take n h.2⟩
def dats_drop:∀{l:List LV} (n:Nat),dats l=true→dats (l.drop n)=true
 |_,0,h=>h
 |[],n+1,_=>by simp[dats]
 |v::l,n+1,h=>by
  simp only[dats,Ac] at h;simp only[List.drop_succ_cons];exact dats_drop n h.2
def uc {α:Type}{f:α→LV}(h:∀a,(f a).dat=true):∀l:List α,dats (l.map f)=true
 |[]=>rfl
 |a::l=>by simp only[C6,dats,Ac];exact⟨h a,uc h l⟩
mutual
def bor (G:Ev):LV→LV→Prop
 |.dy p k,d=>∃l len esz st,d=.lst l len esz∧G[p]?=some (.dyn l len esz k st)∧dats l=true
 |.vw p k lo len,d=>∃l len0 esz st,d=.lst ((l.drop (lo*esz)).take (len*esz)) len esz∧G[p]?=some (.dyn l len0 esz k st)∧lo*esz+len*esz≤l.length∧dats l=true
 |.nilSl,d=>d=.nilSl∨∃esz,d=.lst [] 0 esz
 |.agg l,d=>∃r,d=.agg r∧bors G l r
 |v,d=>d=v∧v.dat=true
def bors (G:Ev):List LV→List LV→Prop
 |[],r=>r=[]
 |v::l,r=>∃d r',r=d::r'∧bor G v d∧bors G l r'
end
section calls
variable {P : Program} {c : Cx} {G : Ev}
def fe {v d:LV}{a:AV}(f:d=v∧v.dat=true)(h:AR c v a):AR ⟨[],fun o=>c.Fz o∨Hw c G o,c.H⟩ d a:=by
 obtain⟨rfl,hd⟩:=f;exact AR.dat (c':=⟨[],fun o=>c.Fz o∨Hw c G o,c.H⟩) (fun o ho=>⟨Or.inl ho,rfl⟩) d a hd h
mutual
def bor_ok (hs:HSim c G)(v d:LV)(a:AV)(hb:bor G v d)(h:AR c v a):AR ⟨[],fun o=>c.Fz o∨Hw c G o,c.H⟩ d a:=by
 cases v with
 |dy p k =>
  simp only[bor] at hb;obtain⟨l,len,esz,st,rfl,hg,hd⟩:=hb;cases h with
  | @dy _ _ k' hh _ e hk ha _ =>
   have hob:=hs.obj p _ _ _ hg e;obtain⟨r0,r1,r2⟩:=hob;have hha:=ha (by omega);rcases r2 with ⟨r2,r3⟩|⟨o,v,room,t,clen,l',r2,r3,r4,r5,r6,r7,r8⟩
   ·subst r3;have:l=[]:=A0 (by simpa using r1);subst this;rw[hha,r2];exact .lstNil
   ·have hl':l'.length=len*esz:=by rw[←r6.length];exact r1
    have hr:=Pj (i:=0) (n:=len*esz) r3 r5 r4 (by omega);rw[C7,Ax (by omega)] at hr;rw[hha,r2];exact .lst (.inr ⟨p,_,_,_,hg,rfl,e,by rw[r2];rfl⟩) (fun r e=>(r7 r e).2) r1 hr (ARs.dat (c':=⟨[],fun o=>c.Fz o∨Hw c G o,c.H⟩) (fun o ho=>⟨Or.inl ho,rfl⟩) l l' hd r6)
 |vw p k lo len =>
  simp only[bor] at hb;obtain⟨l,len0,esz,st,rfl,hg,hle,hd⟩:=hb;cases h with
  | @vw _ _ _ _ k' hh _ e hk ha _ _ =>
   have hkv:=(hs.obj p _ _ _ hg e).1;rcases ha (by omega) with ⟨r3,r4⟩|⟨o,v,len',esz',room,room',r3,r4,r9⟩
   ·subst r3;simp only[Dc,Eo];rcases r4 with rfl|⟨rfl,_⟩
    ·exact .lstNil
    ·exact .lstEmp
   ·have e2:=e;rw[r3] at e2;obtain⟨_,q1,q2,q3,t,clen,l',q4,q5,q6,q7,_⟩:=Xe hs hg e2;subst q2 q3;have hr:=Pj (i:=lo*esz') (n:=len*esz') q4 q6 q5 (by omega);rw[r4];refine .lst (.inr ⟨p,_,_,_,hg,rfl,e,by rw[r3];rfl⟩) r9 (by simp;omega) hr ?_;exact ((ARs.dat (c':=⟨[],fun o=>c.Fz o∨Hw c G o,c.H⟩) (fun o ho=>⟨Or.inl ho,rfl⟩) l l' hd q7).drop _).take _
 |nilSl =>
  simp only[bor] at hb;cases h;rcases hb with rfl|⟨esz,rfl⟩
  ·exact .nilSl
  ·exact .lstNil
 |agg l =>
  simp only[bor] at hb;obtain⟨r,rfl,hb⟩:=hb;cases h with
  |agg h=>exact .agg (bors_ok hs l r _ hb h)
 |_=>exact fe (by simpa only[bor] using hb) h
termination_by SizeOf.sizeOf v
def bors_ok (hs:HSim c G)(l r:List LV)(as:List AV)(hb:bors G l r)(h:ARs c l as):ARs ⟨[],fun o=>c.Fz o∨Hw c G o,c.H⟩ r as:=by
 cases l with
 |nil=>simp only[bors] at hb;subst hb;cases h;exact .nil
 |cons v l =>
  simp only[bors] at hb;obtain⟨d,r',rfl,hb1,hb2⟩:=hb;cases h with
  |cons e es=>exact .cons (bor_ok hs v d _ hb1 e) (bors_ok hs l r' _ hb2 es)
termination_by SizeOf.sizeOf l
end
mutual
def shV (n:Nat):LV→LV
 |.dy j k=>.dy (n+j) k
 |.agg l=>.agg (shVs n l)
 |.tup l=>.tup (shVs n l)
 |v=>v
def shVs (n:Nat):List LV→List LV
 |[]=>[]
 |v::l=>shV n v::shVs n l
end
mutual
def frV (G0:Ev):LV→LV
 |.dy j _=>match G0[j]? with
  |some (.dyn l len esz _ _)=>.lst l len esz
  |_=>.any
 |.agg l=>.agg (frVs G0 l)
 |.tup l=>.tup (frVs G0 l)
 |v=>v
def frVs (G0:Ev):List LV→List LV
 |[]=>[]
 |v::l=>frV G0 v::frVs G0 l
end
mutual
def sh_AR {c0 c':Cx}{n m:Nat}(h:∀j a,j<m→AR c0 (.dy j 0) a→AR c' (.dy (n+j) 0) a)(v:LV)(a:AV)(hs:v.sim m=true)(ha:AR c0 v a):AR c' (shV n v) a:=by
 cases v with
 |dy j k =>
  simp only[LV.sim,Ac,Du,Ao] at hs;obtain⟨rfl,hj⟩:=hs;exact h j a hj ha
 |agg l =>
  simp only[LV.sim] at hs;cases ha with
  |agg ha=>simp only[shV];exact .agg (sh_ARs h l _ hs ha)
 |tup l =>
  simp only[LV.sim] at hs;cases ha with
  |tup ha=>simp only[shV];exact .tup (sh_ARs h l _ hs ha)
 |_=>first|(simp only[LV.sim] at hs;cases hs;done)|(simp only[shV];cases ha;constructor)
termination_by SizeOf.sizeOf v
def sh_ARs {c0 c':Cx}{n m:Nat}(h:∀j a,j<m→AR c0 (.dy j 0) a→AR c' (.dy (n+j) 0) a)(l:List LV)(r:List AV)(hs:sims m l=true)(ha:ARs c0 l r):ARs c' (shVs n l) r:=by
 cases l with
 |nil=>cases ha;simp only[shVs];exact .nil
 |cons v l =>
  simp only[sims,Ac] at hs;cases ha with
  |cons e es=>simp only[shVs];exact .cons (sh_AR h v _ hs.1 e) (sh_ARs h l _ hs.2 es)
termination_by SizeOf.sizeOf l
end
mutual
def fr_AR {c0 c':Cx}{G0:Ev}(h:∀j a,j<G0.length→AR c0 (.dy j 0) a→AR c' (frV G0 (.dy j 0)) a)(v:LV)(a:AV)(hs:v.sim G0.length=true)(ha:AR c0 v a):AR c' (frV G0 v) a:=by
 cases v with
 |dy j k =>
  simp only[LV.sim,Ac,Du,Ao] at hs;obtain⟨rfl,hj⟩:=hs;exact h j a hj ha
 |agg l =>
  simp only[LV.sim] at hs;cases ha with
  |agg ha=>simp only[frV];exact .agg (fr_ARs h l _ hs ha)
 |tup l =>
  simp only[LV.sim] at hs;cases ha with
  |tup ha=>simp only[frV];exact .tup (fr_ARs h l _ hs ha)
 |_=>first|(simp only[LV.sim] at hs;cases hs;done)|(simp only[frV];cases ha;constructor)
termination_by SizeOf.sizeOf v
def fr_ARs {c0 c':Cx}{G0:Ev}(h:∀j a,j<G0.length→AR c0 (.dy j 0) a→AR c' (frV G0 (.dy j 0)) a)(l:List LV)(r:List AV)(hs:sims G0.length l=true)(ha:ARs c0 l r):ARs c' (frVs G0 l) r:=by
 cases l with
 |nil=>cases ha;simp only[frVs];exact .nil
 |cons v l =>
  simp only[sims,Ac] at hs;cases ha with
  |cons e es=>simp only[frVs];exact .cons (fr_AR h v _ hs.1 e) (fr_ARs h l _ hs.2 es)
termination_by SizeOf.sizeOf l
end
def E5 {f:Nat}{args d:List LV}{M:LV}{A:Ev}{K:LV→Ev→Prop}(hc:Hg P f d M A)(hb:bors G args d)(k:K (frV A M) G):Js P (.fn f) args G K:=by
 obtain⟨ht,D,hG,E⟩:=hc;refine⟨ht,fun c t1 y w F Q=>?_⟩;cases t1 with
 |yield o=>exact F.elim
 |fn g =>
  obtain rfl:f=g:=F;obtain⟨m,v1,B,H',q1,Y,q3,R,N,Z⟩:=E (fun o=>c.Fz o∨Hw c G o) c.H y (fun o ho=>ho.elim (w.fz o) (w.lt o)) (bors_ok w args d y hb Q);have hle:CxLe c ⟨c.hd,fun o=>c.Fz o∨Hw ⟨B,fun o=>c.Fz o∨Hw c G o,H'⟩ A o,H'⟩:=⟨fun p k h e=>⟨k,h,e,Am _,fun _=>rfl,fun _=>rfl⟩,fun o ho=>⟨.inl ho,N o (w.fz o ho)⟩⟩;have s:∀o,Hw ⟨c.hd,fun o=>c.Fz o∨Hw ⟨B,fun o=>c.Fz o∨Hw c G o,H'⟩ A o,H'⟩ G o→Hw c G o:=fun o ⟨p,ob,k,h,z,x,H,I⟩=>⟨p,ob,k,h,z,x,H,I⟩
  refine⟨m,v1,H',q1,⟨c.hd,fun o=>c.Fz o∨Hw ⟨B,fun o=>c.Fz o∨Hw c G o,H'⟩ A o,H'⟩,frV A M,G,rfl,?_,?_,?_,k⟩
  ·refine⟨w.len,fun o ho=>?_,fun o ho=>Bg (w.lt o (s o ho)) R,fun o ho J=>?_,fun p ob k h z x=>?_,fun p q ob ob' k h k' h' o z x H I S e6 e7 e8=>w.excl p q ob ob' k h k' h' o z x H I S e6 e7 e8⟩
   ·rcases ho with ho|ho
    ·exact Bg (w.fz o ho) R
    ·exact Y.lt o ho
   ·rcases J with J|J
    ·exact w.sep o (s o ho) J
    ·have:=Z o J;have:=w.lt o (s o ho);omega
   ·by_cases O:ob.live=true
    ·exact (w.obj p ob k h z x).mono hle (fun o ho=>N o (w.lt o ⟨p,ob,k,h,z,O,x,ho⟩))
    ·cases ob<;>first|exact absurd rfl O|trivial
  ·refine⟨hle,R,fun o ho _=>N o ho,fun o ho=>.inl (s o ho),fun o ho=>ho.elim .inl (fun h=>.inr (.inr (Z o h))),fun p ob ob' z x=>?_,fun p ob ob' k h o z x H I S e6=>?_⟩
   ·rw[z] at x;cases x;exact Am _
   ·rw[z] at x;cases x;have O:ob.live=true:=by cases ob<;>first|rfl|cases S
    exact⟨rfl,N o (w.lt o ⟨p,ob,k,h,z,O,H,I⟩),rfl⟩
  ·refine fr_AR (fun j a hj h=>?_) M v1 D q3;obtain⟨l,len,esz,T,U⟩:=hG j _ (Ah hj);have V:A[j]?=some (.dyn l len esz 0 0):=by rw[Ah hj,T]
   simp only[frV];rw[V];dsimp only;cases h with
   | @dy _ _ k' hh _ e hk Q _ =>
    obtain⟨r0,W,C⟩:=Y.obj j _ _ _ V e;have L:=Q (by omega);rcases C with ⟨C,X⟩|⟨o,v,room,t,aa,l',C,X,r4,r5,r6,r7,r8⟩
    ·subst X;have:l=[]:=A0 (by simpa using W);subst this;rw[L,C];exact .lstNil
    ·have ad:l'.length=len*esz:=by rw[←r6.length];exact W
     have hr:=Pj (i:=0) (n:=len*esz) X r5 r4 (by omega);rw[C7,Ax (by omega)] at hr;rw[L,C];exact .lst (.inr ⟨j,_,_,_,V,rfl,e,by rw[C];rfl⟩) (fun r e=>(r7 r e).2) W hr (zdx U r6)
def Za {f:Nat}{args x:List LV}{S:LV}{F:Ev}{K:LV→Ev→Prop}(hc:Hg P f x S F)(hb:bors G args x)(k:K (shV G.length S) (G++F)):Js P (.fn f) args G K:=by
 obtain⟨ht,J,hG,L⟩:=hc;refine⟨ht,fun c t1 C d M Y=>?_⟩;cases t1 with
 |yield o=>exact M.elim
 |fn g =>
  obtain rfl:f=g:=M;obtain⟨m,v1,r,H',Z,I,q3,q4,T,q6⟩:=L (fun o=>c.Fz o∨Hw c G o) c.H C (fun o ho=>ho.elim (d.fz o) (d.lt o)) (bors_ok d args x C hb Y);have N:∀(p k:Nat) (h:AV),c.hd[p]?=some (k,h)→(c.hd++r)[p]?=some (k,h):=fun p k h e=>by
   rw[Aq (Aa.1 e).1];exact e
  have hle:CxLe c ⟨c.hd++r,c.Fz,H'⟩:=⟨fun p k h e=>⟨k,h,N p k h e,Am _,fun _=>rfl,fun _=>rfl⟩,fun o ho=>⟨ho,T o (d.fz o ho)⟩⟩;have H:r.length=F.length:=I.len;have hinv:∀(p:Nat) (k:Nat) (h:AV) (ob':LObj),(c.hd++r)[p]?=some (k,h)→(G++F)[p]?=some ob'→(c.hd[p]?=some (k,h)∧G[p]?=some ob')∨(G.length≤p∧r[p - G.length]?=some (k,h)∧F[p - G.length]?=some ob'):=by
   intro p k h ob' s w;by_cases hp:p<G.length
   ·rw[Aq hp] at w;rw[Aq (by rw[d.len];exact hp)] at s;exact .inl ⟨s,w⟩
   ·rw[Au (by omega)] at w;rw[Au (by rw[d.len];omega),d.len] at s;exact .inr ⟨by omega,s,w⟩
  have y:∀(p k:Nat) (h:AV) (ob:LObj) (o:Nat),r[p]?=some (k,h)→F[p]?=some ob→ob.live=true→Gb h=some o→Hw ⟨r,fun o=>c.Fz o∨Hw c G o,H'⟩ F o:=fun p k h ob o s w A D=>⟨p,ob,k,h,w,A,s,D⟩
  have E:∀o,Hw ⟨c.hd++r,c.Fz,H'⟩ (G++F) o→Hw c G o∨(c.H.next≤o∧o<H'.next):=by
   rintro o ⟨p,ob',k,h,s,w,A,D⟩;rcases hinv p k h ob' A s with ⟨Z,I⟩|⟨_,B,z⟩
   ·exact .inl ⟨p,ob',k,h,I,w,Z,D⟩
   ·have:=y _ k h ob' o B z w D;exact .inr ⟨q6 o this,I.lt o this⟩
  refine⟨m,v1,H',Z,⟨c.hd++r,c.Fz,H'⟩,shV G.length S,G++F,rfl,?_,?_,?_,k⟩
  ·refine⟨by simp[d.len,H],fun o ho=>Bg (d.fz o ho) q4,fun o ho=>?_,fun o ho hf=>?_,fun p ob k h s w=>?_,fun p q ob ob' k h k' U o s w A D e5 e6 V W=>?_⟩
   ·rcases E o ho with h|h
    ·exact Bg (d.lt o h) q4
    ·exact h.2
   ·rcases E o ho with h|h
    ·exact d.sep o h hf
    ·have:=d.fz o hf;omega
   ·rcases hinv p k h ob w s with ⟨B,z⟩|⟨_,B,z⟩
    ·by_cases X:ob.live=true
     ·exact (d.obj p ob k h z B).mono hle (fun o ho=>T o (d.lt o ⟨p,ob,k,h,z,X,B,ho⟩))
     ·cases ob<;>first|exact absurd rfl X|trivial
    ·obtain⟨l,len,esz,rfl,aa⟩:=hG _ _ z;obtain⟨s0,s1,s2⟩:=I.obj _ _ _ _ z B;refine⟨s0,s1,?_⟩;rcases s2 with s2|⟨o,v,room,t,O,l',s2,s3,s4,s5,s6,s7⟩
     ·exact .inl s2
     ·exact .inr ⟨o,v,room,t,O,l',s2,s3,s4,s5,zdx aa s6,s7⟩
   ·rcases hinv p k h ob e5 s with ⟨B,z⟩|⟨hp,B,z⟩<;>rcases hinv q k' U ob' e6 w with ⟨Q,R⟩|⟨hq,Q,R⟩
    ·exact d.excl p q ob ob' k h k' U o z R A D B Q V W
    ·have:=d.lt o ⟨p,ob,k,h,z,A,B,V⟩;have:=q6 o (y _ _ _ _ o Q R D W);omega
    ·have:=d.lt o ⟨q,ob',k',U,R,D,Q,W⟩;have:=q6 o (y _ _ _ _ o B z A V);omega
    ·have:=I.excl _ _ ob ob' k h k' U o z R A D B Q V W;omega
  ·refine⟨hle,q4,fun o ho _=>T o ho,fun o ho=>(E o ho).elim .inl (fun h=>.inr h.1),fun o ho=>.inl ho,fun p ob ob' s w=>?_,fun p ob ob' k h o s w A D e5 e6=>?_⟩
   ·rw[Aq (Aa.1 s).1,s] at w;cases w;exact Am _
   ·rw[Aq (Aa.1 s).1,s] at w;cases w;have X:ob.live=true:=by cases ob<;>first|rfl|cases e5
    exact⟨rfl,T o (d.lt o ⟨p,ob,k,h,s,X,A,D⟩),by rw[N p k h A,A]⟩
  ·refine sh_AR (fun j a hj h=>?_) S v1 J q3;cases h with
   | @dy _ _ k' hh _ e hk Y ad =>
    exact .dy (k':=k') (h:=hh) (by dsimp only;rw[Au (by rw[d.len];omega),d.len,Nat.add_sub_cancel_left];exact e) hk Y ad
end calls
end Go.Sv
namespace Go.Sv
section rules
variable {P : Program} {f n : Nat} {ρ : Ey} {D : List Nat} {G : Ev} {Q : Ip}
end rules
end Go.Sv
noncomputable section
namespace Go.Sv
def wp (P:Program)(f n:Nat)(ro:Option Nat):LC→Ey→List Nat→Ev→Ip→Prop
 |.skip,ρ,D,G,Q=>Q .normal ρ D G
 |.ops l,ρ,D,G,Q=>Mw P l ρ G fun ρ' G'=>Q .normal ρ' D G'
 |.seq a b,ρ,D,G,Q=>wp P f n ro a ρ D G fun x ρ' h G'=>match x with
  |.normal=>wp P f n ro b ρ' h G' Q
  |x=>Q x ρ' h G'
 |.cond x a b,ρ,D,G,Q=>wc (x.ev ρ) (wp P f n ro a ρ D G Q) (wp P f n ro b ρ D G Q)
 |.block id c,ρ,D,G,Q=>wp P f n ro c ρ D G fun x ρ' h G'=>match x with
  |.exit i=>if i=id then Q .normal ρ' h G' else Q (.exit i) ρ' h G'
  |x=>Q x ρ' h G'
 |.draw l,ρ,D,G,Q=>S4 P l ρ G fun ρ' G'=>Q .normal ρ' D G'
 |.exit id,ρ,D,G,Q=>Q (.exit id) ρ D G
 |.scope c,ρ,D,G,Q=>wp P f n ro c ρ D G Q
 |.label,ρ,D,G,Q=>Q .normal ρ D G
 |.ret,ρ,D,G,Q=>Q .ret ρ D G
 |.stuck,_,_,_,_=>False
 |s,ρ,D,G,Q=>W P f n s ro ρ D G Q
def Pv (P:Program)(f n:Nat)(ro:Option Nat)(b:LC)(Q:Ip):Ip:=fun x ρ' h G'=>match x with
  |.normal=>wp P f n ro b ρ' h G' Q
  |x=>Q x ρ' h G'
def b8 (id:Nat)(Q:Ip):Ip:=fun x ρ' h G'=>match x with
  |.exit i=>if i=id then Q .normal ρ' h G' else Q (.exit i) ρ' h G'
  |x=>Q x ρ' h G'
def vu (Nx:Ey→List Nat→Ev→Prop)(Q:Ip):Ip:=fun x ρ' h G'=>match x with
  |.normal=>Nx ρ' h G'
  |x=>Q x ρ' h G'
def m8 (K:LV→Ev→Prop)(G:Ev):List LV→Prop:=fun vs=>K (L6 vs) G
def bt (ρ:Ey)(rs:List RRes)(K:LV→Ev→Prop):Ev→Prop:=fun h=>I7 ρ h rs (m8 K h)
def eu (rs : List RRes) (K : LV → Ev → Prop) : Ip := fun x ρ D G' => match x with
   |.exit _=>False
   |_=>Y9 D G' (bt ρ rs K)
def oo (Q:Ip)(D:List Nat):Ey→Ev→Prop:=fun ρ G=>Q .normal ρ D G
def yd (P:Program)(l:List LI)(K:Ey→Ev→Prop):Ey→Ev→Prop:=fun ρ' G'=>Mw P l ρ' G' K
def ei (ρ:Ey)(d:Option Nat)(K:Ey→Ev→Prop):LV→Ev→Prop:=fun v G'=>K (Kr ρ d v) G'
def Px (K:LV→Ev→Prop)(G:Ev):LV→Prop:=fun v=>K v G
def drK (P:Program)(cs:List (LI×Bool))(l:List (LI×List (LI×Bool)))(ρ:Ey)(G:Ev)(K:Ey→Ev→Prop):Ey→Ev→Prop:=fun ρ' G'=>Oq ρ G G' cs∧S4 P l ρ' G' K
def xw (ρ:Ey)(t:Nat)(K:List LV→Prop):List LV→Prop:=fun vs=>K (lk ρ t::vs)
def mg (v:LV)(K:List LV→Prop):List LV→Prop:=fun vs=>K (v::vs)
def cnK (ρ:Ey)(G:Ev)(l:List RRes)(K:List LV→Prop):List LV→Prop:=fun cs=>I7 ρ G l (mg (.agg cs) K)
def Mn {P:Program}{f n:Nat}{ro:Option Nat}:∀(s:LC) {ρ:Ey} {D:List Nat} {G:Ev} {Q:Ip},wp P f n ro s ρ D G Q→W P f n s ro ρ D G Q
 |.skip,_,_,_,_,h=>me h
 |.ops l,_,_,_,_,h=>yo h
 |.seq a b,_,_,_,_,h=>yc ((Mn a h).post fun x ρ D G k=>by
  cases x with
  |normal=>exact Mn b k
  |exit i=>exact k
  |ret=>exact k)
 |.cond x a b,ρ,_,_,_,h=>by
  simp only[wp] at h;obtain⟨t,j,h⟩:=Wx h;exact nv j (fun e=>Mn a (h.1 e)) (fun e=>Mn b (h.2 e))
 |.block id c,_,_,_,_,h=>Y0 (Mn c h)
 |.exit id,_,_,_,_,h=>tw h
 |.scope c,_,_,_,_,h=>eh (Mn c h)
 |.label,_,_,_,_,h=>Y6 h
 |.ret,_,_,_,_,h=>W_ret h
 |.stuck,_,_,_,_,h=>h.elim
 |.draw l,_,_,_,_,h=>tq h
 |.loop c,_,_,_,_,h=>h
 |.rangeF g ps a b,_,_,_,_,h=>h
section rules
variable {P : Program}
def E9 {f:Nat}{s:LC}{n:Nat}{rs:List RRes}(q:Fg P f=some ⟨n,s.r,rs⟩)(j:s.ok=true){args:List LV}{G:Ev}{K:LV→Ev→Prop}(C:args.length≤n)
  (h:wp P f n none s (W8 args 0) [] G (eu rs K)):Js P (.fn f) args G K :=
 zv0 q j C ((Mn s h).post fun x ρ D G' k=>by
  cases x with
  |normal=>exact⟨trivial,k⟩
  |exit i=>exact k.elim
  |ret=>exact⟨trivial,k⟩)
def Hg.val {f:Nat}{args:List LV}{v0:LV}(aa:v0.sim 0=true)(h:Js P (.fn f) args [] fun v _=>v=subV [] v0):Hg P f args v0 [] :=
 .mk aa (h.mono fun v G e=>⟨[],e,rfl,trivial⟩) (fun j ob e=>by simp at e)
def cw {f n:Nat}{ro:Option Nat}{ρ:Ey}{D:List Nat}{G:Ev}{Q:Ip}{s:LC}(I:Ey→List Nat→Ev→Nat→Prop){N:Nat}(q:I ρ D G N)
  (h:∀N ρ D G,I ρ D G N→wp P f n ro s ρ D G (vu (fun ρ' C G'=>∃j,j<N∧I ρ' C G' j) Q)):W P f n (.loop s) ro ρ D G Q :=
 Ve I q fun N ρ D G k=>Mn s (h N ρ D G k)
def Iw {f n:Nat}{ro:Option Nat}{ρ:Ey}{D:List Nat}{G:Ev}{Q:Ip}{s:LC}(I:Ey→List Nat→Ev→Nat→Prop){N:Nat}(C:I ρ D G N)
  (h:∀(N:Nat) (ρ:Ey) (D:List Nat) (G:Ev),I ρ D G N→∀Nx:Ey→List Nat→Ev→Prop,(∀(ρ':Ey) (q:List Nat) (G':Ev),(∃j,j<N∧I ρ' q G' j)→Nx ρ' q G')→wp P f n ro s ρ D G (vu Nx Q)):W P f n (.loop s) ro ρ D G Q :=
 Ve I C fun N ρ D G k=>Mn s (h N ρ D G k (fun ρ' q G'=>∃j,j<N∧I ρ' q G' j) fun _ _ _ e=>e)
end rules
section congr
variable {P : Program} {ρ ρ' : Ey} {G G' : Ev} {x x' y y' : LV} {K : LV → Ev → Prop} {Kv : LV → Prop}
@[congr] theorem W_congr {f n:Nat} {s:LC} {ro:Option Nat} {D:List Nat} {Q:Ip} (h:ρ=ρ') (j:G=G'):W P f n s ro ρ D G Q=W P f n s ro ρ' D G' Q:=by rw[h,j]
@[congr] theorem xb {f n:Nat} {s:LC} {ro:Option Nat} {D:List Nat} {Q:Ip} (h:ρ=ρ') (j:G=G'):wp P f n ro s ρ D G Q=wp P f n ro s ρ' D G' Q:=by rw[h,j]
@[congr] theorem ji {t:LTgt} {a h:List LV} (j:a=h) (q:G=G'):Js P t a G K=Js P t h G' K:=by rw[j,q]
@[congr] theorem qk {op:BinOp} {g:Bool} {t:TypeId} (h:x=x') (j:y=y'):K8 P op g t x y Kv=K8 P op g t x' y' Kv:=by rw[h,j]
@[congr] theorem ur {op:UnOp} (h:x=x'):pi op x Kv=pi op x' Kv:=by rw[h]
@[congr] theorem ul {k:IntKind} (h:x=x'):Zb k x Kv=Zb k x' Kv:=by rw[h]
@[congr] theorem j7 {n:Nat} {K:List LV→Prop} (h:G=G') (j:x=x'):Qq G x n K=Qq G' x' n K:=by rw[h,j]
@[congr] theorem kj (h:G=G') (j:x=x'):Qp G x Kv=Qp G' x' Kv:=by rw[h,j]
@[congr] theorem np {l l':List LV} {i i':Nat} (h:l=l') (j:i=i'):Hj l i Kv=Hj l' i' Kv:=by rw[h,j]
@[congr] theorem di {r r':List LV} {K:Ev→Prop} (h:G=G') (j:x=x') (q:r=r'):Oi G x r K=Oi G' x' r' K:=by rw[h,j,q]
@[congr] theorem ow {n:Nat} {K:Nat→List LV→Prop} (h:G=G') (j:x=x'):Lw G n x K=Lw G' n x' K:=by rw[h,j]
@[congr] theorem ol {K:Nat→Prop} (h:G=G') (j:x=x'):lenL G x K=lenL G' x' K:=by rw[h,j]
@[congr] theorem nf {size n n':Nat} {l l':List LV} (h:G=G') (j:x=x') (q:n=n') (C:l=l'):Hz G size x n l K=Hz G' size x' n' l' K:=by rw[h,j,q,C]
@[congr] theorem ug {t j:Bool} {A B:Prop} (h:t=j):Ma t A B=Ma j A B:=by rw[h]
@[congr] theorem wq {A B Z:Prop} (h:x=x'):Yn x A B Z=Yn x' A B Z:=by rw[h]
@[congr] theorem vk {A B:Prop} (h:x=x'):wc x A B=wc x' A B:=by rw[h]
end congr
def zo1 {t:Bool}{A B:Prop}:wc (.bool t) A B=Ma t A B:=(rfl)
def zst {t:Bool}{A B Z:Prop}:Yn (.bool t) A B Z=Ma t A B:=(rfl)
def zx0 {A B Z:Prop}:Yn (.tup []) A B Z=Z:=(rfl)
def zmg {A B:Prop}:Ma true A B=A:=by simp[Ma]
def zj0 {A B:Prop}:Ma false A B=B:=by simp[Ma]
def de {p:Prop}[Decidable p]{A B:Prop}:Ma (decide p) A B=((p→A)∧(¬p→B)):=by simp[Ma]
def zw1 {b:Bool}{A B:Prop}:Ma (!b) A B=Ma b B A:=by cases b<;>simp[Ma]
def zp6 (v:LV)(l:List LV)(K:LV→Prop):Hj (v::l) 0 K=K v:=by simp[Hj]
def zov (v:LV)(l:List LV)(i:Nat)(K:LV→Prop):Hj (v::l) (i+1) K=Hj l i K:=by simp[Hj]
def ztm {α:Type}(f:α→LV)(d:α)(l:List α)(i:Nat)(K:LV→Prop):Hj (l.map f) i K=(i<l.length∧K (f (l.getD i d))):=by
 unfold Hj;by_cases h:i<l.length
 ·simp[h]
 ·simp[h]
def V6 (l:List UInt64)(i:Nat)(K:LV→Prop):Hj (l.map .u) i K=(i<l.length∧K (.u (l.getD i 0))):=ztm _ _ _ _ _
def S7 (o:Option LObj)(K:List LV→Nat→Prop):Prop:=match o with
 |some (.cells l st)=>K l st
 |_=>False
def Jk (o:Option LObj)(K:List LV→Nat→Nat→Nat→Nat→Prop):Prop:=match o with
 |some (.dyn l len esz h st)=>K l len esz h st
 |_=>False
def q9 (o:Option (List LV))(K:List LV→Prop):Prop:=match o with
 |some l=>K l
 |none=>False
def cm (c a b:LV)(K:LV→Prop):Prop:=match c with
 |.bool t=>match a,b with
  |.bool x,.bool y=>K (.bool (match t with|true=>x|false=>y))
  |x,y=>Ma t (K x) (K y)
 |_=>False
def br (x:LV)(K:LV→Prop):Prop:=match x with
 |.ptr p i=>K (.ptr p i)
 |.dptr p k i=>K (.dptr p k i)
 |.cptr l i=>K (.cptr l i)
 |.fn (.func f) a b=>K (.fn (.func f) a b)
 |_=>False
def zze (x y:LV)(K:Nat→Prop):Prop:=match x,y with
 |.i l,.i c=>l=c∧0≤l∧l≤1048576∧K l.toNat
 |_,_=>False
def Zv (x:LV)(K:Nat→Prop):Prop:=match x with
 |.i n=>0≤n∧K n.toNat
 |.u n=>K n.toNat
 |_=>False
def X1 (G:Ev)(size:Nat)(x:LV)(lo:(Nat→Prop)→Prop)(hi:Nat→(Nat→Prop)→Prop)(K:LV→Prop):Prop:=match x with
 |.nilSl=>lo fun a=>hi 0 fun b=>a=0∧b=0∧K .nilSl
 |.dy p k=>Jk G[p]? fun _ len esz h _=>k=h∧esz=size∧lo fun a=>hi len fun b=>a≤b∧b≤len∧K (.vw p k a (b - a))
 |.vw p k j len=>Jk G[p]? fun _ _ esz h _=>k=h∧esz=size∧lo fun a=>hi len fun b=>a≤b∧b≤len∧K (.vw p k (j+a) (b - a))
 |.lst l len esz=>esz=size∧lo fun a=>hi len fun b=>a≤b∧b≤len∧K (.lst ((l.drop (a*esz)).take ((b - a)*esz)) (b - a) esz)
 |_=>False
def Pl (off:Nat)(x:LV)(K:LV→Prop):Prop:=match x with
 |.ptr p i=>K (.ptr p (i+off))
 |.dptr p k i=>K (.dptr p k (i+off))
 |.cptr l i=>K (.cptr l (i+off))
 |_=>False
def Z0 (g:Bool)(n off:Nat)(x:LV)(K:LV→Prop):Prop:=match x with
 |.agg l=>match g with
  |true=>off+n≤l.length∧K (.agg ((l.drop off).take n))
  |false=>Hj l off K
 |_=>False
def Th (G:Ev)(size:Nat)(x:LV)(n:Int)(K:LV→Prop):Prop:=match x with
 |.dy p k=>Jk G[p]? fun _ len esz h _=>k=h∧esz=size∧0≤n∧n<len∧K (.dptr p k (n.toNat*size))
 |.vw p k lo len=>Jk G[p]? fun _ _ esz h _=>k=h∧esz=size∧0≤n∧n<len∧K (.dptr p k ((lo+n.toNat)*size))
 |.lst l len esz=>esz=size∧0≤n∧n<len∧K (.cptr l (n.toNat*size))
 |_=>False
def vm (G:Ev)(size:Nat)(x i:LV)(K:LV→Prop):Prop:=match i with
 |.i n=>Th G size x n K
 |.u n=>Th G size x (n.toNat:Int) K
 |_=>False
def ee (i:Nat)(x:LV)(K:LV→Prop):Prop:=match x with
 |.tup l=>Hj l i K
 |_=>False
def Vg (mx:Bool)(x y:LV)(K:LV→Prop):Prop:=match x,y with
 |.i a,.i b=>K (.i (match mx with|true=>max a b|false=>min a b))
 |.u a,.u b=>K (.u (match mx with|true=>if a<b then b else a|false=>if b<a then b else a))
 |_,_=>False
def Y7 (x:LV)(K:Nat→Prop):Prop:=match x with
 |.i n=>0≤n∧n≤1048576∧K n.toNat
 |_=>False
def zxb (G:Ev)(size:Nat)(d:LV)(n:Nat)(l:List LV)(K:LV→Ev→Prop):Prop:=match d with
 |.dy p k=>Jk G[p]? fun r len esz h st=>k=h∧esz=size∧K (.i (min n len:Nat)) (G.set p (.dyn (Gp r 0 (l.take (min n len*size))) len esz h (st+1)))
 |.vw p k lo len=>Jk G[p]? fun r j esz h st=>k=h∧esz=size∧(lo+len)*size≤r.length∧K (.i (min n len:Nat)) (G.set p (.dyn (Gp r (lo*size) (l.take (min n len*size))) j esz h (st+1)))
 |_=>False
def y7 (G:Ev)(size:Nat)(z:List LV)(x:LV)(K:Ev→Prop):Prop:=match x with
 |.vw p k lo len=>Jk G[p]? fun r h esz j st=>k=j∧esz=size∧z.length=size∧(lo+len)*size≤r.length∧K (G.set p (.dyn (Gp r (lo*size) (Hm z len)) h esz j (st+1)))
 |_=>False
def goL (P:Program)(f:LV)(args:List LV)(G:Ev)(K:LV→Ev→Prop):Prop:=match f with
 |.fn (.func g) a b=>Js P (.fn g) (a++args++b) G K
 |.fn (.yield p) [] _=>Js P (.yield p) args G K
 |_=>False
section byOps
variable {P : Program} {ρ : Ey} {G : Ev} {K : LV → Ev → Prop} {x y c a b s d i f : Lx} {l cs z : List LV} {ps : List (Nat × Nat × Lx)} {n size len off : Nat} {lo hi : Option Lx}
def OpL_move:F7 P ρ G (.move x) K=K (x.ev ρ) G:=(rfl)
def OpL_pick:F7 P ρ G (.pick c a b) K=cm (c.ev ρ) (a.ev ρ) (b.ev ρ) (Px K G):=(rfl)
def OpL_alloc:F7 P ρ G (.alloc l) K=K (.ptr G.length 0) (G++[.cells l 0]):=(rfl)
def OpL_box:F7 P ρ G (.box x) K=q9 (x.ev ρ).cells fun l=>K (.ptr G.length 0) (G++[.cells l 0]):=(rfl)
def OpL_build:F7 P ρ G (.build cs ps) K=q9 (fw ρ cs ps) fun l=>K (.agg l) G:=(rfl)
def OpL_buildSl:F7 P ρ G (.buildSl size len cs ps) K=q9 (fw ρ cs ps) fun l=>l.length=len*size∧K (.dy G.length 0) (G++[.dyn l len size 0 0]):=(rfl)
def OpL_load1:F7 P ρ G (.load1 x) K=Qp G (x.ev ρ) (Px K G):=(rfl)
def OpL_loadN:F7 P ρ G (.loadN n x) K=Qq G (x.ev ρ) n fun l=>K (.agg l) G:=(rfl)
def OpL_store:F7 P ρ G (.store n x y) K=q9 (y.ev ρ).cells fun l=>l.length=n∧Oi G (x.ev ρ) l fun G'=>K (.tup []) G':=(rfl)
def OpL_nilChk:F7 P ρ G (.nilChk x) K=br (x.ev ρ) (Px K G):=(rfl)
def bf {op:BinOp}{g:Bool}{t:TypeId}:F7 P ρ G (.bin op g t x y) K=K8 P op g t (x.ev ρ) (y.ev ρ) (Px K G):=(rfl)
def sx {op:UnOp}:F7 P ρ G (.un op x) K=pi op (x.ev ρ) (Px K G):=(rfl)
def zxm {k:IntKind}:F7 P ρ G (.cvInt k x) K=Zb k (x.ev ρ) (Px K G):=(rfl)
def zur {g:Nat}{h gs:List Lx}:F7 P ρ G (.mkFunc g h gs) K=K (.fn (.func g) (h.map (·.ev ρ)) (gs.map (·.ev ρ))) G:=(rfl)
def OpL_mkSl:F7 P ρ G (.mkSl size z a b) K=zze (a.ev ρ) (b.ev ρ) fun n=>z.length=size∧K (.dy G.length 0) (G++[.dyn (Hm z n) n size 0 0]):=by
 simp only[F7,zze];cases a.ev ρ<;>cases b.ev ρ<;>rfl
def zx5 {x:Lx}{d:Nat}{K:Nat→Prop}:Hs ρ d (some x) K=Zv (x.ev ρ) K:=(rfl)
def zx8 {d:Nat}{K:Nat→Prop}:Hs ρ d none K=K d:=(rfl)
def OpL_slSl:F7 P ρ G (.slSl size x lo hi) K=X1 G size (x.ev ρ) (fun k=>Hs ρ 0 lo k) (fun d k=>Hs ρ d hi k) (Px K G):=by
 simp only[F7,X1,Jk];cases x.ev ρ<;>try rfl
 all_goals (cases G[_]?<;>try rfl)
def gg (len size:Nat)(x i:LV)(K:LV→Prop):Prop:=match i with
 |.i n=>0≤n∧n<len∧Pl (n.toNat*size) x K
 |_=>False
def fp (g:Bool)(len size:Nat)(x i:LV)(K:LV→Prop):Prop:=match i with
 |.i n=>0≤n∧n<len∧Z0 g size (n.toNat*size) x K
 |_=>False
def zmh {len size:Nat}{x i:Lx}:F7 P ρ G (.ixAddrArr len size x i) K=gg len size (x.ev ρ) (i.ev ρ) (Px K G):=(rfl)
def zwe {g:Bool}{len size:Nat}{x i:Lx}:F7 P ρ G (.ixArr g len size x i) K=fp g len size (x.ev ρ) (i.ev ρ) (Px K G):=(rfl)
def OpL_fieldAddr:F7 P ρ G (.fieldAddr off x) K=Pl off (x.ev ρ) (Px K G):=(rfl)
def OpL_ixAddr:F7 P ρ G (.ixAddr size x i) K=vm G size (x.ev ρ) (i.ev ρ) (Px K G):=by
 simp only[F7,vm,Th,ixO,Jk];cases i.ev ρ<;>try rfl
def OpL_extract:F7 P ρ G (.extract n x) K=ee n (x.ev ρ) (Px K G):=(rfl)
def OpL_lenSl:F7 P ρ G (.lenSl x) K=lenL G (x.ev ρ) fun n=>K (.i n) G:=(rfl)
def Vz {g:Bool}:F7 P ρ G (.maxi g x y) K=Vg g (x.ev ρ) (y.ev ρ) (Px K G):=(rfl)
def OpL_appZ:F7 P ρ G (.appZ size z s x) K=Y7 (x.ev ρ) fun n=>z.length=size∧Hz G size (s.ev ρ) n (Hm z n) K:=(rfl)
def OpL_appG:F7 P ρ G (.appG size s x) K=Lw G size (x.ev ρ) fun n l=>n≤1048576∧Hz G size (s.ev ρ) n l K:=(rfl)
def OpL_copy:F7 P ρ G (.copy size d x) K=Lw G size (x.ev ρ) fun n l=>zxb G size (d.ev ρ) n l K:=by
 simp only[F7,zxb,Jk]
 congr 1
def OpL_clear:F7 P ρ G (.clear size z x) K=y7 G size z (x.ev ρ) fun G'=>K .any G':=by
 simp only[F7,y7,Jk]
 congr 1
def zx1 {args:List Lx}:F7 P ρ G (.callV f args) K=goL P (f.ev ρ) (args.map (·.ev ρ)) G K:=(rfl)
end byOps
section opened
variable {P : Program} {G : Ev} {p k i n size lo len off esz : Nat} {l r new : List LV} {K : List LV → Prop} {K1 : LV → Prop} {KG : Ev → Prop} {KN : Nat → Prop} {KR : Nat → List LV → Prop} {KV : LV → Ev → Prop} {KS : List UInt8 → Prop} {lof mxf : (Nat → Prop) → Prop} {hif : Nat → (Nat → Prop) → Prop}
def ztn {l:List LV}{st:Nat}{K:List LV→Nat→Prop}:S7 (some (.cells l st)) K=K l st:=(rfl)
def zs4 {l:List LV}{len esz h st:Nat}{K:List LV→Nat→Nat→Nat→Nat→Prop}:Jk (some (.dyn l len esz h st)) K=K l len esz h st:=(rfl)
def cellsL_some:q9 (some l) K=K l:=(rfl)
def zk9 {a b:LV}:cm (.bool true) a b K1=K1 a:=by cases a<;>cases b<;>simp[cm,Ma]
def zhd {a b:LV}:cm (.bool false) a b K1=K1 b:=by cases a<;>cases b<;>simp[cm,Ma]
def zp4 {t x:Bool}:cm (.bool t) (.bool x) (.bool false) K1=K1 (.bool (t&&x)):=by cases t<;>rfl
def ztw {t x:Bool}:cm (.bool t) (.bool true) (.bool x) K1=K1 (.bool (t || x)):=by cases t<;>rfl
def chkL_ptr:br (.ptr p i) K1=K1 (.ptr p i):=(rfl)
def zxv {a b:Int}:zze (.i a) (.i b) KN=(a=b∧0≤a∧a≤1048576∧KN a.toNat):=(rfl)
def Uv {a:Int}:Zv (.i a) KN=(0≤a∧KN a.toNat):=(rfl)
def slL_nil:X1 G size .nilSl lof hif K1=(lof fun a=>hif 0 fun b=>a=0∧b=0∧K1 .nilSl):=(rfl)
def slL_dy:X1 G size (.dy p k) lof hif K1=(Jk G[p]? fun _ len esz h _=>k=h∧esz=size∧lof fun a=>hif len fun b=>a≤b∧b≤len∧K1 (.vw p k a (b - a))):=(rfl)
def slL_vw:X1 G size (.vw p k lo len) lof hif K1=(Jk G[p]? fun _ _ esz h _=>k=h∧esz=size∧lof fun a=>hif len fun b=>a≤b∧b≤len∧K1 (.vw p k (lo+a) (b - a))):=(rfl)
def slL_lst:X1 G size (.lst l len esz) lof hif K1=(esz=size∧lof fun a=>hif len fun b=>a≤b∧b≤len∧K1 (.lst ((l.drop (a*esz)).take ((b - a)*esz)) (b - a) esz)):=(rfl)
def offL_ptr:Pl off (.ptr p i) K1=K1 (.ptr p (i+off)):=(rfl)
def offL_cptr:Pl off (.cptr l i) K1=K1 (.cptr l (i+off)):=(rfl)
def fldL_true:Z0 true n off (.agg l) K1=(off+n≤l.length∧K1 (.agg ((l.drop off).take n))):=(rfl)
def fldL_false:Z0 false n off (.agg l) K1=Hj l off K1:=(rfl)
def jm {x:LV}{n:Int}:vm G size x (.i n) K1=Th G size x n K1:=(rfl)
def iu {x:LV}{n:UInt64}:vm G size x (.u n) K1=Th G size x (n.toNat:Int) K1:=(rfl)
def zx4 {n:Int}:Th G size (.dy p k) n K1=(Jk G[p]? fun _ len esz h _=>k=h∧esz=size∧0≤n∧n<len∧K1 (.dptr p k (n.toNat*size))):=(rfl)
def zvq {n:Int}:Th G size (.vw p k lo len) n K1=(Jk G[p]? fun _ _ esz h _=>k=h∧esz=size∧0≤n∧n<len∧K1 (.dptr p k ((lo+n.toNat)*size))):=(rfl)
def Rf {n:Int}:Th G size (.lst l len esz) n K1=(esz=size∧0≤n∧n<len∧K1 (.cptr l (n.toNat*size))):=(rfl)
def tupL_tup:ee i (.tup l) K1=Hj l i K1:=(rfl)
def V5 {len size:Nat}{x:LV}{n:Int}:gg len size x (.i n) K1=(0≤n∧n<len∧Pl (n.toNat*size) x K1):=(rfl)
def Xg {g:Bool}{len size:Nat}{x:LV}{n:Int}:fp g len size x (.i n) K1=(0≤n∧n<len∧Z0 g size (n.toNat*size) x K1):=(rfl)
def zwp {a b:Int}:N7 .and a b K1=(0≤a∧a<9223372036854775808∧0≤b∧b<9223372036854775808∧K1 (.i (a.toNat &&& b.toNat:Nat))):=(rfl)
def zwt {a b:Int}:Vg true (.i a) (.i b) K1=K1 (.i (max a b)):=(rfl)
def zyq {a b:Int}:Vg false (.i a) (.i b) K1=K1 (.i (min a b)):=(rfl)
def T3 {n:Int}:Y7 (.i n) KN=(0≤n∧n≤1048576∧KN n.toNat):=(rfl)
def zs9 {n:Nat}:zxb G size (.dy p k) n l KV=(Jk G[p]? fun r len esz h st=>k=h∧esz=size∧KV (.i (min n len:Nat)) (G.set p (.dyn (Gp r 0 (l.take (min n len*size))) len esz h (st+1)))):=(rfl)
def zpz {z:List LV}{KH:Ev→Prop}:y7 G size z (.vw p k lo len) KH=(Jk G[p]? fun r h esz j st=>k=j∧esz=size∧z.length=size∧(lo+len)*size≤r.length∧KH (G.set p (.dyn (Gp r (lo*size) (Hm z len)) h esz j (st+1)))):=(rfl)
def V0 {g:Nat}{a b args:List LV}:goL P (.fn (.func g) a b) args G KV=Js P (.fn g) (a++args++b) G KV:=(rfl)
def readL_ptr:Qq G (.ptr p i) n K=S7 G[p]? fun l _=>i+n≤l.length∧K ((l.drop i).take n):=by
 simp only[Qq,S7];cases G[p]?<;>try rfl
def readL_cptr:Qq G (.cptr l i) n K=(i+n≤l.length∧K ((l.drop i).take n)):=(rfl)
def read1_ptr:Qp G (.ptr p i) K1=S7 G[p]? fun l _=>Hj l i K1:=by
 simp only[Qp,S7];cases G[p]?<;>try rfl
def read1_dptr:Qp G (.dptr p k i) K1=Jk G[p]? fun l _ _ h _=>k=h∧Hj l i K1:=by
 simp only[Qp,Jk];cases G[p]?<;>try rfl
def read1_cptr:Qp G (.cptr l i) K1=Hj l i K1:=(rfl)
def writeL_ptr:Oi G (.ptr p i) r KG=S7 G[p]? fun l st=>i+r.length≤l.length∧KG (G.set p (.cells (Gp l i r) (st+1))):=by
 simp only[Oi,S7];cases G[p]?<;>try rfl
def writeL_dptr:Oi G (.dptr p k i) r KG=Jk G[p]? fun l len esz h st=>k=h∧i+r.length≤l.length∧KG (G.set p (.dyn (Gp l i r) len esz h (st+1))):=by
 simp only[Oi,Jk];cases G[p]?<;>try rfl
def rowL_dy:Lw G size (.dy p k) KR=Jk G[p]? fun l len esz h _=>k=h∧esz=size∧KR len l:=by
 simp only[Lw,Jk];cases G[p]?<;>try rfl
def rowL_lst:Lw G size (.lst l len esz) KR=(esz=size∧KR len l):=(rfl)
def lenL_nil:lenL G .nilSl KN=KN 0:=(rfl)
def lenL_dy:lenL G (.dy p k) KN=Jk G[p]? fun _ len _ h _=>k=h∧KN len:=by
 simp only[lenL,Jk];cases G[p]?<;>try rfl
def lenL_vw:lenL G (.vw p k lo len) KN=Jk G[p]? fun _ _ _ h _=>k=h∧KN len:=by
 simp only[lenL,Jk];cases G[p]?<;>try rfl
def lenL_lst:lenL G (.lst l len esz) KN=KN len:=(rfl)
def appL_nil:Hz G size .nilSl n new KV=KV (.dy G.length 0) (G++[.dyn new n size 0 0]):=(rfl)
def appL_dy:Hz G size (.dy p k) n new KV=Jk G[p]? fun l len esz h st=>k=h∧(esz=size∧0<esz)∧len≤1000000000∧KV (.dy p (h+1)) (G.set p (.dyn (l++new) (len+n) esz (h+1) (st+1))):=by
 simp only[Hz,Jk];cases G[p]?<;>try rfl
def appL_vw:Hz G size (.vw p k lo len) n new KV=Jk G[p]? fun l j esz h st=>k=h∧(esz=size∧lo=0∧0<n)∧len≤1000000000∧if (len+n)*esz≤l.length then KV (.vw p k 0 (len+n)) (G.set p (.dyn (Gp l (len*esz) new) j esz h (st+1)))∧KV (.dy G.length 0) (G++[.dyn (l.take (len*esz)++new) (len+n) size 0 0]) else len=j∧0<esz∧KV (.dy p (h+1)) (G.set p (.dyn (l++new) (len+n) esz (h+1) (st+1)))∧KV (.dy G.length 0) (G++[.dyn (l++new) (len+n) size 0 0]):=by
 simp only[Hz,Jk];cases G[p]?<;>try rfl
variable {op : BinOp} {g : Bool} {t : TypeId}
def zzd {a b:UInt64}:K8 P op g t (.u a) (.u b) K1=Oj op a b K1:=(rfl)
def Q6 {a b:Int}:K8 P op g t (.i a) (.i b) K1=N7 op a b K1:=(rfl)
def zoq {a:Int}{s:UInt64}:K8 P .shl g t (.i a) (.u s) K1=(0≤a∧s.toNat≤64∧Na (a*2^s.toNat)∧K1 (.i (a*2^s.toNat))):=(rfl)
def zsu {a b:Bool}:K8 P .eql g t (.bool a) (.bool b) K1=(J6 P g t (.bool a) (.bool b)=some (a==b)∧K1 (.bool (a==b))):=(rfl)
def zsg {a b:Bool}:K8 P .neq g t (.bool a) (.bool b) K1=(J6 P g t (.bool a) (.bool b)=some (a==b)∧K1 (.bool (!(a==b)))):=(rfl)
def zzc {b:Bool}:pi .not (.bool b) K1=K1 (.bool (!b)):=(rfl)
def Xa {a:Int}:Zb .u64 (.i a) K1=K1 (.u (iU a)):=(rfl)
def Wh {a:UInt64}:Zb .i64 (.u a) K1=(a.toNat<9223372036854775808∧K1 (.i a.toNat)):=(rfl)
def ztj {l:List LV}{len esz:Nat}:K8 P .eql g t (.lst l len esz) .nilSl K1=(J6 P g t .nilSl .nilSl=some true∧K1 (.bool false)∧(len=0→K1 (.bool true))):=(rfl)
end opened
section code
variable {P : Program} {f n : Nat} {ro : Option Nat} {ρ ρ' : Ey} {D : List Nat} {G G' : Ev} {Q : Ip} {a b c : LC} {x : Lx} {id i t d : Nat} {l : List LI} {ds : List (LI × List (LI × Bool))} {cs : List (LI × Bool)} {K : Ey → Ev → Prop} {KV : LV → Ev → Prop} {KL : List LV → Prop} {KG : Ev → Prop} {Nx : Ey → List Nat → Ev → Prop} {rs : List RRes} {o : LOp} {od : Option Nat} {v w : LV} {vs : List LV} {it : LI}
def wp_skip:wp P f n ro .skip ρ D G Q=Q .normal ρ D G:=(rfl)
def wp_ops:wp P f n ro (.ops l) ρ D G Q=Mw P l ρ G (oo Q D):=(rfl)
def wp_seq:wp P f n ro (.seq a b) ρ D G Q=wp P f n ro a ρ D G (Pv P f n ro b Q):=(rfl)
def wp_cond:wp P f n ro (.cond x a b) ρ D G Q=wc (x.ev ρ) (wp P f n ro a ρ D G Q) (wp P f n ro b ρ D G Q):=(rfl)
def wp_block:wp P f n ro (.block id c) ρ D G Q=wp P f n ro c ρ D G (b8 id Q):=(rfl)
def wp_draw:wp P f n ro (.draw ds) ρ D G Q=S4 P ds ρ G (oo Q D):=(rfl)
def wp_exit:wp P f n ro (.exit id) ρ D G Q=Q (.exit id) ρ D G:=(rfl)
def wp_ret:wp P f n ro .ret ρ D G Q=Q .ret ρ D G:=(rfl)
def wp_loop:wp P f n ro (.loop c) ρ D G Q=W P f n (.loop c) ro ρ D G Q:=(rfl)
def seqQ_n:Pv P f n ro b Q .normal ρ D G=wp P f n ro b ρ D G Q:=(rfl)
def seqQ_e:Pv P f n ro b Q (.exit i) ρ D G=Q (.exit i) ρ D G:=(rfl)
def seqQ_r:Pv P f n ro b Q .ret ρ D G=Q .ret ρ D G:=(rfl)
def blkQ_n:b8 id Q .normal ρ D G=Q .normal ρ D G:=(rfl)
def blkQ_e:b8 id Q (.exit i) ρ D G=if i=id then Q .normal ρ D G else Q (.exit i) ρ D G:=(rfl)
def blkQ_r:b8 id Q .ret ρ D G=Q .ret ρ D G:=(rfl)
def nxQ_n:vu Nx Q .normal ρ D G=Nx ρ D G:=(rfl)
def nxQ_e:vu Nx Q (.exit i) ρ D G=Q (.exit i) ρ D G:=(rfl)
def nxQ_r:vu Nx Q .ret ρ D G=Q .ret ρ D G:=(rfl)
def endQ_n:eu rs KV .normal ρ D G=Y9 D G (bt ρ rs KV):=(rfl)
def endQ_r:eu rs KV .ret ρ D G=Y9 D G (bt ρ rs KV):=(rfl)
def norQ_app:oo Q D ρ G=Q .normal ρ D G:=(rfl)
def takeL_nil:Y9 [] G KG=KG G:=(rfl)
def takK_app:bt ρ rs KV G=I7 ρ G rs (m8 KV G):=(rfl)
def endK_app:m8 KV G vs=KV (L6 vs) G:=(rfl)
def resL_nil:I7 ρ G [] KL=KL []:=(rfl)
def resL_tmp:I7 ρ G (.tmp t::rs) KL=I7 ρ G rs (xw ρ t KL):=(rfl)
def resL_cN:I7 ρ G (.cellN t n::rs) KL=Qq G (lk ρ t) n (cnK ρ G rs KL):=(rfl)
def tmpK_app:xw ρ t KL vs=KL (lk ρ t::vs):=(rfl)
def conK_app:mg v KL vs=KL (v::vs):=(rfl)
def cnK_app:cnK ρ G rs KL vs=I7 ρ G rs (mg (.agg vs) KL):=(rfl)
def oneL_1:L6 [v]=v:=(rfl)
def oneL_0:L6 []=.tup []:=(rfl)
def oneL_2:L6 (v::w::vs)=.tup (v::w::vs):=(rfl)
def OpsL_nil:Mw P [] ρ G K=K ρ G:=(rfl)
def OpsL_cons:Mw P (it::l) ρ G K=R1 P it ρ G (yd P l K):=(rfl)
def opsK_app:yd P l K ρ G=Mw P l ρ G K:=(rfl)
def ItL_n:R1 P ⟨od,none,o⟩ ρ G K=F7 P ρ G o (ei ρ od K):=(rfl)
def ItL_t:R1 P ⟨od,some (t,true),o⟩ ρ G K=Yn (lk ρ t) (F7 P (setL t (.bool true) ρ) G o (ei (setL t (.bool true) ρ) od K)) (ei (setL t (.bool false) ρ) od K (.tup []) G) (ei ρ od K (.tup []) G):=(rfl)
def ItL_f:R1 P ⟨od,some (t,false),o⟩ ρ G K=Yn (lk ρ t) (ei (setL t (.bool true) ρ) od K (.tup []) G) (F7 P (setL t (.bool false) ρ) G o (ei (setL t (.bool false) ρ) od K)) (ei ρ od K (.tup []) G):=(rfl)
def itK_some:ei ρ (some d) K v G=K ((d,v)::ρ) G:=(rfl)
def itK_none:ei ρ none K v G=K ρ G:=(rfl)
def atG_app:Px KV G v=KV v G:=(rfl)
def DrL_nil:S4 P [] ρ G K=K ρ G:=(rfl)
def DrL_cons:S4 P ((it,cs)::ds) ρ G K=R1 P it ρ G (drK P cs ds ρ G K):=(rfl)
def drK_app:drK P cs ds ρ G K ρ' G'=(Oq ρ G G' cs∧S4 P ds ρ' G' K):=(rfl)
def ev_t:(Lx.t i).ev ρ=lk ρ i:=(rfl)
def ev_c:(Lx.c v).ev ρ=v:=(rfl)
def argsL_nil:W8 [] i=[]:=(rfl)
def argsL_cons:W8 (v::vs) i=(i,v)::W8 vs (i+1):=(rfl)
def setL_cons:setL t v ((d,w)::ρ)=if t=d then (d,v)::ρ else (d,w)::setL t v ρ:=(rfl)
end code
section nums
variable {K : LV → Prop}
def zyu {a b:UInt64}:Oj .add a b K=K (.u (M7 a b)):=(rfl)
def zy5 {a b:UInt64}:Oj .sub a b K=K (.u (Sg a b)):=(rfl)
def zw0 {a b:UInt64}:Oj .mul a b K=K (.u (K5 a b)):=(rfl)
def Rg {a b:UInt64}:Oj .rem a b K=(b≠0∧K (.u (bh a b))):=(rfl)
def zzq {a b:UInt64}:Oj .shl a b K=K (.u (Sm a b.toNat)):=(rfl)
def zxl {a b:UInt64}:Oj .shr a b K=K (.u (J1 a b.toNat)):=(rfl)
def zxy {a b:UInt64}:Oj .and a b K=K (.u (Kk a b)):=(rfl)
def W1 {a b:UInt64}:Oj .or a b K=K (.u (orU a b)):=(rfl)
def zyd {a b:UInt64}:Oj .xor a b K=K (.u (Zr a b)):=(rfl)
def zw3 {a b:UInt64}:Oj .eql a b K=K (.bool (decide (a=b))):=(rfl)
def zwf {a b:UInt64}:Oj .neq a b K=K (.bool (decide (a≠b))):=(rfl)
def zzj {a b:UInt64}:Oj .lss a b K=K (.bool (decide (a<b))):=(rfl)
def zyl {a b:UInt64}:Oj .leq a b K=K (.bool (decide (a≤b))):=(rfl)
def zz4 {a b:UInt64}:Oj .geq a b K=K (.bool (decide (b≤a))):=(rfl)
def zwy {a b:Int}:N7 .add a b K=(Na (a+b)∧K (.i (a+b))):=(rfl)
def zws {a b:Int}:N7 .sub a b K=(Na (a - b)∧K (.i (a - b))):=(rfl)
def zzr {a b:Int}:N7 .mul a b K=(Na (a*b)∧K (.i (a*b))):=(rfl)
def zww {a b:Int}:N7 .quo a b K=(b≠0∧Na (a.tdiv b)∧K (.i (a.tdiv b))):=(rfl)
def zwl {a b:Int}:N7 .rem a b K=(b≠0∧K (.i (a.tmod b))):=(rfl)
def zwj {a b:Int}:N7 .shl a b K=(0≤a∧0≤b∧b≤64∧Na (a*2^b.toNat)∧K (.i (a*2^b.toNat))):=(rfl)
def Rb {a b:Int}:N7 .shr a b K=(0≤a∧0≤b∧b≤64∧K (.i (a/2^b.toNat))):=(rfl)
def zzb {a b:Int}:N7 .eql a b K=K (.bool (decide (a=b))):=(rfl)
def zwv {a b:Int}:N7 .neq a b K=K (.bool (decide (a≠b))):=(rfl)
def zzp {a b:Int}:N7 .lss a b K=K (.bool (decide (a<b))):=(rfl)
def zzu {a b:Int}:N7 .leq a b K=K (.bool (decide (a≤b))):=(rfl)
def zyk {a b:Int}:N7 .gtr a b K=K (.bool (decide (b<a))):=(rfl)
def zzw {a b:Int}:N7 .geq a b K=K (.bool (decide (b≤a))):=(rfl)
end nums
section congr2
variable {P : Program} {G G' : Ev} {x x' y y' z z' : LV} {K : LV → Ev → Prop} {Kv : LV → Prop} {n n' size : Nat}
@[congr] theorem wh {o j:Option LObj} {K:List LV→Nat→Prop} (h:o=j):S7 o K=S7 j K:=by rw[h]
@[congr] theorem uj {o j:Option LObj} {K:List LV→Nat→Nat→Nat→Nat→Prop} (h:o=j):Jk o K=Jk j K:=by rw[h]
@[congr] theorem Y8 {o j:Option (List LV)} {K:List LV→Prop} (h:o=j):q9 o K=q9 j K:=by rw[h]
@[congr] theorem lj (h:x=x') (j:y=y') (q:z=z'):cm x y z Kv=cm x' y' z' Kv:=by rw[h,j,q]
@[congr] theorem nr (h:x=x'):br x Kv=br x' Kv:=by rw[h]
@[congr] theorem js {K:Nat→Prop} (h:x=x') (j:y=y'):zze x y K=zze x' y' K:=by rw[h,j]
@[congr] theorem oy {K:Nat→Prop} (h:x=x'):Zv x K=Zv x' K:=by rw[h]
@[congr] theorem wj {lo:(Nat→Prop)→Prop} {hi:Nat→(Nat→Prop)→Prop} (h:G=G') (j:x=x'):X1 G size x lo hi Kv=X1 G' size x' lo hi Kv:=by rw[h,j]
@[congr] theorem m6 (h:x=x'):Pl n x Kv=Pl n x' Kv:=by rw[h]
@[congr] theorem wm (h:G=G') (j:x=x') (q:y=y'):vm G size x y Kv=vm G' size x' y' Kv:=by rw[h,j,q]
@[congr] theorem vg {i i':Int} (h:G=G') (j:x=x') (q:i=i'):Th G size x i Kv=Th G' size x' i' Kv:=by rw[h,j,q]
@[congr] theorem rk (h:x=x'):ee n x Kv=ee n x' Kv:=by rw[h]
@[congr] theorem nh {len size:Nat} (h:x=x') (j:y=y'):gg len size x y Kv=gg len size x' y' Kv:=by rw[h,j]
@[congr] theorem mc {g:Bool} {len size:Nat} (h:x=x') (j:y=y'):fp g len size x y Kv=fp g len size x' y' Kv:=by rw[h,j]
@[congr] theorem tf {g:Bool} (h:x=x') (j:y=y'):Vg g x y Kv=Vg g x' y' Kv:=by rw[h,j]
@[congr] theorem ly {K:Nat→Prop} (h:x=x'):Y7 x K=Y7 x' K:=by rw[h]
@[congr] theorem ef {z z':List LV} {KH:Ev→Prop} (h:G=G') (j:x=x') (q:z=z'):y7 G size z x KH=y7 G' size z' x' KH:=by rw[h,j,q]
@[congr] theorem lh {l l':List LV} (h:G=G') (j:x=x') (q:n=n') (C:l=l'):zxb G size x n l K=zxb G' size x' n' l' K:=by rw[h,j,q,C]
@[congr] theorem wo {l l':List LV} (h:x=x') (j:l=l') (q:G=G'):goL P x l G K=goL P x' l' G' K:=by rw[h,j,q]
end congr2
def LU (a:List UInt64):LV:=.lst (a.map .u) a.length 1
def sy (a:List UInt64):dats (a.map LV.u)=true:=uc (fun _=>rfl) a
def zkp (l r:List LV):Gp l 0 r=r++l.drop r.length:=by simp[Gp]
def zvj (v:LV)(l r:List LV)(i:Nat):Gp (v::l) (i+1) r=v::Gp l i r:=by
 unfold Gp;rw[show i+1+r.length=(i+r.length)+1 from by omega];simp
attribute [simp] Oq ckL oc ki Zt LObj.stp LObj.st zp6 zov V6 T1 zz fw LV.cells subV subVs Rn notP shV shVs frV frVs bor bors LV.dat dats LV.scal LV.sim sims sy zkp zvj LU Na
attribute [simp] zo1 zst zx0 zmg zj0 de zw1
attribute [simp ↓] zo1 zst zx0 zmg zj0 zw1 zp6 zov V6
attribute [simp ↓] OpL_move OpL_pick OpL_alloc OpL_box OpL_build OpL_buildSl OpL_load1 OpL_loadN OpL_store OpL_nilChk bf sx zxm zur OpL_mkSl zx5 zx8 OpL_slSl OpL_fieldAddr OpL_ixAddr OpL_extract OpL_lenSl Vz OpL_appZ OpL_appG OpL_copy zx1
attribute [simp] ztn zs4 cellsL_some zk9 zhd zp4 ztw chkL_ptr zxv Uv slL_nil slL_dy slL_vw slL_lst offL_ptr offL_cptr fldL_true fldL_false jm iu zx4 zvq Rf tupL_tup zwt zyq T3 zs9 V0 readL_ptr readL_cptr read1_ptr read1_dptr read1_cptr writeL_ptr writeL_dptr rowL_dy rowL_lst lenL_nil lenL_dy lenL_vw lenL_lst appL_nil appL_dy appL_vw zzd Q6 zoq zsu zsg ztj zzc Xa Wh
attribute [simp ↓] ztn zs4 cellsL_some zk9 zhd zp4 ztw chkL_ptr zxv Uv slL_nil slL_dy slL_vw slL_lst offL_ptr offL_cptr fldL_true fldL_false jm iu zx4 zvq Rf tupL_tup zwt zyq T3 zs9 V0 readL_ptr readL_cptr read1_ptr read1_dptr read1_cptr writeL_ptr writeL_dptr rowL_dy rowL_lst lenL_nil lenL_dy lenL_vw lenL_lst appL_nil appL_dy appL_vw zzd Q6 zoq zsu zsg ztj zzc Xa Wh
attribute [simp] wp_skip wp_ops wp_seq wp_cond wp_block wp_draw wp_exit wp_ret wp_loop seqQ_n seqQ_e seqQ_r blkQ_n blkQ_e blkQ_r nxQ_n nxQ_e nxQ_r endQ_n endQ_r norQ_app takeL_nil takK_app endK_app resL_nil resL_tmp resL_cN tmpK_app conK_app cnK_app oneL_1 oneL_0 oneL_2 OpsL_nil OpsL_cons opsK_app ItL_n ItL_t ItL_f itK_some itK_none atG_app DrL_nil DrL_cons drK_app ev_t ev_c argsL_nil argsL_cons setL_cons zyu zy5 zw0 Rg zzq zxl zxy W1 zyd zw3 zwf zzj zyl zz4 zwy zws zzr zww zwl zwj Rb zzb zwv zzp zzu zyk zzw
attribute [simp ↓] wp_skip wp_ops wp_seq wp_cond wp_block wp_draw wp_exit wp_ret wp_loop seqQ_n seqQ_e seqQ_r blkQ_n blkQ_e blkQ_r nxQ_n nxQ_e nxQ_r endQ_n endQ_r norQ_app takeL_nil takK_app endK_app resL_nil resL_tmp resL_cN tmpK_app conK_app cnK_app oneL_1 oneL_0 oneL_2 OpsL_nil OpsL_cons opsK_app ItL_n ItL_t ItL_f itK_some itK_none atG_app DrL_nil DrL_cons drK_app ev_t ev_c argsL_nil argsL_cons setL_cons zyu zy5 zw0 Rg zzq zxl zxy W1 zyd zw3 zwf zzj zyl zz4 zwy zws zzr zww zwl zwj Rb zzb zwv zzp zzu zyk zzw
attribute [simp] V5 Xg zwp
attribute [simp] zpz
attribute [simp ↓] OpL_clear zpz zmh zwe V5 Xg zwp
def Xi (o:Option Bool)(A B:Prop):Prop:=match o with
 |some b=>Ma b A B
 |none=>False
def nm (o:Option LObj)(K:List (LV×LV×Nat)→Nat→Nat→Prop):Prop:=match o with
 |some (.map es ck st)=>K es ck st
 |_=>False
def jn (d:TypeDesc)(k z:LV)(ok:Bool)(K:LV→Prop):List (LV×LV×Nat)→Prop:=fun es=>Z2 d k (yh z ok K) es
def yn (x:LV×LV×Nat)(K:List (LV×LV×Nat)→Bool→Prop):List (LV×LV×Nat)→Bool→Prop:=fun r new=>K (x::r) new
def sr (G:Ev)(n size:Nat)(x:LV)(lo:(Nat→Prop)→Prop)(hi:Nat→(Nat→Prop)→Prop)(K:LV→Ev→Prop):Prop:=match x with
 |.ptr p i=>S7 G[p]? fun l st=>i+n*size≤l.length∧lo fun a=>hi n fun b=>a≤b∧b≤n∧K (.lst ((l.drop (i+a*size)).take ((b - a)*size)) (b - a) size) (G.set p (.dead (st+1)))
 |_=>False
section maps
variable {P : Program} {ρ : Ey} {G G' : Ev} {K : LV → Ev → Prop} {K1 : LV → Prop} {x i m k v z x' k' : LV} {X I M V : Lx} {d : TypeDesc} {ok : Bool} {es es' : List (LV × LV × Nat)} {KE : List (LV × LV × Nat) → Prop} {KB : List (LV × LV × Nat) → Bool → Prop} {KH : Ev → Prop} {p ck st n size : Nat} {lo hi : Option Lx} {A B : Prop} {lof : (Nat → Prop) → Prop} {hif : Nat → (Nat → Prop) → Prop}
def OpL_mkMap0:F7 P ρ G .mkMap0 K=K (.map G.length) (G++[.map [] 0 0]):=(rfl)
def OpL_lookup:F7 P ρ G (.lookup d z ok X I) K=Po G (X.ev ρ) (jn d (I.ev ρ) z ok (Px K G)):=(rfl)
def OpL_mapUpd:F7 P ρ G (.mapUpd d M I V) K=ij G d (M.ev ρ) (I.ev ρ) (V.ev ρ) fun G'=>K .any G':=(rfl)
def OpL_slArr:F7 P ρ G (.slArr n size X lo hi) K=sr G n size (X.ev ρ) (fun k=>Hs ρ 0 lo k) (fun d k=>Hs ρ d hi k) K:=by
 simp only[F7,sr,S7];cases X.ev ρ<;>try rfl
 all_goals (cases G[_]?<;>try rfl)
def zsv {K:List (LV×LV×Nat)→Nat→Nat→Prop}:nm (some (.map es ck st)) K=K es ck st:=(rfl)
def mapL_map:Po G (.map p) KE=nm G[p]? fun es _ _=>KE es:=by
 simp only[Po,nm];cases G[p]?<;>try rfl
def lookM_app:jn d k z ok K1 es=Z2 d k (yh z ok K1) es:=(rfl)
def zoj {h:Option LV→Prop}:Z2 d k h []=h none:=(rfl)
def zkc {h:Option LV→Prop}:Z2 d k h ((k',v,n)::es)=Xi (Pp d k k') (h (some v)) (Z2 d k h es):=(rfl)
def lookK_st:yh z true K1 (some v)=K1 (.tup [v,.bool true]):=(rfl)
def lookK_nt:yh z true K1 none=K1 (.tup [z,.bool false]):=(rfl)
def updL'_map:ij G d (.map p) k v KH=nm G[p]? fun es ck st=>Oo d k v ck (mr G p ck st KH) es:=by
 simp only[ij,nm];cases G[p]?<;>try rfl
def putL_nil:Oo d k v ck KB []=KB [(k,v,ck)] true:=(rfl)
def zo5 {w:LV}:Oo d k v ck KB ((k',w,n)::es)=Xi (Pp d k k') (KB ((k,v,n)::es) false) (Oo d k v ck (yn (k',w,n) KB) es):=(rfl)
def zta {y:LV×LV×Nat}{b:Bool}:yn y KB es b=KB (y::es) b:=(rfl)
def setK_t:mr G p ck st KH es true=KH (G.set p (.map es (ck+1) (st+1))):=(rfl)
def zng {b:Bool}:Xi (some b) A B=Ma b A B:=(rfl)
def Vn {h:IntKind}{a b:Int}:Pp (.int h) (.i a) (.i b)=some (decide (a=b)):=(rfl)
def ztv {j:Nat}:sr G n size (.ptr p j) lof hif K=S7 G[p]? fun l st=>j+n*size≤l.length∧lof fun a=>hif n fun b=>a≤b∧b≤n∧K (.lst ((l.drop (j+a*size)).take ((b - a)*size)) (b - a) size) (G.set p (.dead (st+1))):=(rfl)
@[congr] theorem vn {o j:Option LObj} {K:List (LV×LV×Nat)→Nat→Nat→Prop} (h:o=j):nm o K=nm j K:=by rw[h]
@[congr] theorem jo {h j:LV} (q:G=G') (C:m=j) (E:k=k') (F:v=h):ij G d m k v KH=ij G' d j k' h KH:=by rw[q,C,E,F]
@[congr] theorem ts {o j:Option Bool} (h:o=j):Xi o A B=Xi j A B:=by rw[h]
end maps
attribute [simp] zsv mapL_map lookM_app zoj zkc lookK_st lookK_nt updL'_map putL_nil zo5 zta setK_t zng Vn ztv
attribute [simp ↓] OpL_mkMap0 OpL_lookup OpL_mapUpd OpL_slArr zsv mapL_map lookM_app zoj zkc lookK_st lookK_nt updL'_map putL_nil zo5 zta setK_t zng Vn ztv
abbrev LI.z (d:Nat)(o:LOp):LI:=⟨some d,none,o⟩
abbrev LI.m (d t:Nat):LI:=⟨some d,none,.move (.t t)⟩
abbrev LI.l (d t:Nat):LI:=⟨some d,none,.load1 (.t t)⟩
abbrev LI.f (d n t:Nat):LI:=⟨some d,none,.fieldAddr n (.t t)⟩
abbrev LI.y (d g : Nat)(o : LOp) : LI := ⟨some d, some (g, true), o⟩
abbrev LI.n (d g : Nat)(o : LOp) : LI := ⟨some d, some (g, false), o⟩
abbrev LI.my (d g t : Nat) : LI := ⟨some d, some (g, true), .move (.t t)⟩
abbrev LI.mn (d g t : Nat) : LI := ⟨some d, some (g, false), .move (.t t)⟩
abbrev LI.v (o : LOp) : LI := ⟨none, none, o⟩
abbrev LOp.w (f : Nat)(l : List Lx) : LOp := .callV (.c (.fn (.func f) [] [])) l
abbrev Lx.k (n : Int) : Lx := .c (.i n)
abbrev Lx.T : Lx := .c (.bool true)
abbrev Lx.F : Lx := .c (.bool false)
abbrev LC.q (l : List LI)(s : LC) : LC := .seq (.ops l) s
end Go.Sv
end
noncomputable section
namespace Go.Sv
open Go.RowKit (Below)
mutual
inductive Sh where
 |bool
 |u
 |b
 |i
 |k (k:IntKind)
 |str
 |sl (s:Sh)
 |st (l:ShL)
inductive ShL where
 |nil
 |cons (s:Sh) (l:ShL)
end
mutual
def Sh.n:Sh→Nat
 |.st l=>l.n
 |_=>1
def ShL.n:ShL→Nat
 |.nil=>0
 |.cons s l=>s.n+l.n
end
mutual
def Sh.T:Sh→Type
 |.bool=>Bool
 |.u=>UInt64
 |.b=>UInt8
 |.i=>{ n:Int // Na n }
 |.k _=>Int
 |.str=>{ l:List UInt8 // l.length≤maxLen }
 |.sl s=>{ l:List s.T // l.length≤maxLen }
 |.st l=>l.T
def ShL.T:ShL→Type
 |.nil=>Unit
 |.cons s l=>s.T×l.T
end
mutual
def Sh.enc:(s:Sh)→s.T→List LV
 |.bool,x=>[.bool x]
 |.u,x=>[.u x]
 |.b,x=>[.b x]
 |.i,x=>[.i x.1]
 |.k k,x=>[.int k x]
 |.str,x=>[.str x.1]
 |.sl s,x=>[.lst (x.1.flatMap s.enc) x.1.length s.n]
 |.st l,x=>l.enc x
def ShL.enc:(l:ShL)→l.T→List LV
 |.nil,_=>[]
 |.cons s l,x=>s.enc x.1++l.enc x.2
end
mutual
def Sh.enc_length:∀(s:Sh) (x:s.T),(s.enc x).length=s.n
 |.bool,_=>rfl
 |.u,_=>rfl
 |.b,_=>rfl
 |.i,_=>rfl
 |.k _,_=>rfl
 |.str,_=>rfl
 |.sl _,_=>rfl
 |.st l,x=>by simp only[Sh.enc,Sh.n];exact ShL.enc_length l x
def ShL.enc_length:∀(l:ShL) (x:l.T),(l.enc x).length=l.n
 |.nil,_=>rfl
 |.cons s l,x=>by simp only[ShL.enc,ShL.n,Aj,Sh.enc_length s x.1,ShL.enc_length l x.2]
end
def Uy (P:Program)(f:TypeId→Option Sh)(a:Nat):List Field→Nat→Option ShL
 |[],off=>if off=a then some .nil else none
 |fd::l,off=>match f fd.type with
  |none=>none
  |some s=>if fd.offset=off∧P.cellsOf fd.type=s.n then match Uy P f a l (off+s.n) with
   |none=>none
   |some r=>some (.cons s r)
   else none
def zxg:Nat→Sh→ShL
 |0,_=>.nil
 |n+1,s=>.cons s (zxg n s)
def O3 (P:Program):Nat→TypeId→Option Sh
 |0,_=>none
 |d+1,t=>match P.underlying t with
  |some .bool=>some .bool
  |some (.int k)=>match k with
   |.u64=>some .u
   |.u8=>some .b
   |.i64=>some .i
   |k=>some (.k k)
  |some .string=>some .str
  |some (.slice e)=>match O3 P d e with
   |none=>none
   |some s=>if P.cellsOf e=s.n∧0<s.n then some (.sl s) else none
  |some (.struct a)=>match Uy P (O3 P d) (P.cellsOf t) a.toList 0 with
   |none=>none
   |some l=>some (.st l)
  |some (.array n e)=>match O3 P d e with
   |none=>none
   |some s=>if P.cellsOf e=s.n∧P.cellsOf t=n*s.n then some (.st (zxg n s)) else none
  |_=>none
def wx (P:Program)(d:Nat):List TypeId→Option ShL
 |[]=>some .nil
 |t::l=>match O3 P d t with
  |none=>none
  |some s=>if P.cellsOf t=s.n then match wx P d l with
   |none=>none
   |some r=>some (.cons s r)
   else none
def Rel.ro {W:World}{C:CM}{H:Heap}(h:Rel W C H W){L:Loc}(hL:L.b<W.heap.size){l:List AV}(af:C.le (C.ext H.next 0 L)→Ie W.heap.size (C.ext H.next 0 L) W H.next (.cells (Ju l 0 .e) l.length 0 true)) :
  Rel W (C.ext H.next 0 L) (H.push (.cells (Ju l 0 .e) l.length 0 true)) W∧C.le (C.ext H.next 0 L):=by
 have hle:C.le (C.ext H.next 0 L):=CM.le_ext _ (h.next_none 0) (.inr (Di h.nx));refine⟨⟨by show max C.nx (H.next+1)=H.next+1;rw[h.nx];exact Nat.max_eq_right (Eg _),h.low,?_,?_,?_,?_,?_⟩,hle⟩
 ·intro o v L' aa;show o<H.next+1;by_cases e:o=H.next∧v=0
  ·omega
  ·rw[CM.ext_ne _ _ e] at aa;have:=h.fresh _ _ _ aa;omega
 ·intro o v L' aa;by_cases e:o=H.next∧v=0
  ·obtain⟨rfl,rfl⟩:=e;rw[CM.ext_same] at aa;cases aa;exact hL
  ·rw[CM.ext_ne _ _ e] at aa;exact h.lt _ _ _ aa
 ·intro o v L1 o' v' L2 h1 h2 hb hB;by_cases e:o=H.next∧v=0
  ·obtain⟨rfl,rfl⟩:=e;rw[CM.ext_same] at h1;cases h1;omega
  ·by_cases e':o'=H.next∧v'=0
   ·obtain⟨rfl,rfl⟩:=e';rw[CM.ext_same] at h2;cases h2;omega
   ·rw[CM.ext_ne _ _ e] at h1;rw[CM.ext_ne _ _ e'] at h2;exact h.excl _ _ _ _ _ _ h1 h2 hb hB
 ·intro o ob ho hg;by_cases e:o=H.next
  ·subst e;rw[Heap.get_push_same] at hg;cases hg;exact af hle
  ·have ad:o<H.next:=by have:o<H.next+1:=ho;omega
   rw[Heap.get_push_ne _ _ ad] at hg;refine (h.obj _ _ ad hg).frame hle (fun v L' aa=>?_) (fun _ _ _=>rfl)
   rwa [CM.ext_ne _ _ (by omega)] at aa
 ·intro o c len ag ro ho hg v L' aa;by_cases e:o=H.next
  ·subst e;by_cases ev:v=0
   ·omega
   ·rw[CM.ext_ne _ _ (by omega)] at aa;have:=h.fresh _ _ _ aa;omega
  ·have ad:o<H.next:=by have:o<H.next+1:=ho;omega
   rw[Heap.get_push_ne _ _ ad] at hg;rw[CM.ext_ne _ _ (by omega)] at aa;exact h.top _ _ _ _ _ ad hg _ _ aa
def Mu (H:Heap):Cx:=⟨[],fun o=>o<H.next,H⟩
def K9 (H H':Heap):Prop:=H.next≤H'.next∧∀o,o<H.next→H'.get o=H.get o
def K9.refl (H:Heap):K9 H H:=⟨Am _,fun _ _=>rfl⟩
def K9.trans {A B C:Heap}(h:K9 A B)(k:K9 B C):K9 A C:=⟨Bo h.1 k.1,fun o ho=>by rw[k.2 o (Bg ho h.1),h.2 o ho]⟩
def K9.le {H H':Heap}(h:K9 H H'):CxLe (Mu H) (Mu H') :=
 ⟨fun p k x e=>by simp[Mu] at e,fun o ho=>⟨Bg ho h.1,h.2 o ho⟩⟩
section imp
variable {HH : Type} {enc : TypeId × Value → HH} {P : Program} {W : World}
def Got (W:World)(C:CM)(H:Heap)(cs:List Value)(s:Nat)(T:Type)(e:T→List LV):Prop :=
 ∃d H' as,∃y:T,C.le d∧Rel W d H' W∧K9 H H'∧VRs d as cs∧(∀a∈as,a.one=true)∧ARs (Mu H') (e y) as∧as.length=s
def ib {C:CM}{H:Heap}(d:Rel W C H W){v:Value}{T:Type}{e:T→List LV}(y:T)(a:AV)(l:LV)(he:e y=[l])(hv:VR C a v)(f:a.one=true)(g:AR (Mu H) l a):Got W C H [v] 1 T e :=
 ⟨C,H,[a],y,CM.le_refl C,d,.refl H,.cons hv .nil,by simpa using f,by rw[he];exact .cons g .nil,rfl⟩
def zk3 {a:List MemPlace}(d:W.noneFrozen a){b off n:Nat}(h:∀x∈MemPlace.row ⟨b,off,none⟩ n,x∈a){i:Nat}(hi:i<n):W.frozen? ⟨b,off+i,none⟩=false :=
 d b (off+i) (h _ (El.2 ⟨i,Cp.2 hi,rfl⟩))
def got_cells:∀(J:Nat) (d:Nat) (t:TypeId) (s:Sh) (cs:List Value) (x:DataW HH×List MemPlace) (C:CM) (H:Heap),O3 P d t=some s→DataW.trod enc P W 0 (fun _=>true) true J t cs=some x→W.noneFrozen x.2→Rel W C H W →
  Got W C H cs s.n s.T s.enc:=by
 intro J
 induction J with
 |zero=>intro d t s cs x C H _ h;simp[DataW.trod] at h
 |succ J ih =>
  intro d t s cs x C H g h S A;cases d with
  |zero=>cases g
  |succ d =>
   simp only[O3] at g;split at g
   ·rename_i hu;cases g;obtain⟨b,rfl,_⟩:=DataW.trod_bool hu h;exact ib A (T:=Bool) b (.bool b) (.bool b) rfl (.bool b) rfl (.bool b)
   ·rename_i k hu;obtain⟨n,rfl,_,hw⟩:=DataW.trod_int hu h;split at g
    ·cases g;have hb:=bounds_u64 hw;refine ib A (T:=UInt64) (UInt64.ofNat n.toNat) (.int .u64 n) (.u (UInt64.ofNat n.toNat)) rfl (.int _ _) rfl (.u' ?_);rw[By];simp only[A8];omega
    ·cases g;have hb:=bounds_u8 hw;refine ib A (T:=UInt8) (UInt8.ofNat n.toNat) (.int .u8 n) (.b (UInt8.ofNat n.toNat)) rfl (.int _ _) rfl (.b' ?_);rw[UInt8.toNat_ofNat'];simp only[A8];omega
    ·cases g;have hb:=bounds_i64 hw;exact ib A (T:={ n:Int // Na n }) ⟨n,by unfold Na;omega⟩ (.int .i64 n) (.i n) rfl (.int _ _) rfl (.i n)
    ·cases g;exact ib A (T:=Int) n (.int k n) (.int k n) rfl (.int _ _) rfl (.int k n)
   ·rename_i hu;cases g;obtain⟨b,rfl,_,hm⟩:=DataW.trod_string hu h;exact ib A (T:={ l:List UInt8 // l.length≤maxLen }) ⟨b.data.toList,by simpa using hm⟩ (.str b.data.toList.length (Hh b.data.toList)) (.str b.data.toList) rfl (.str rfl rfl) rfl (.str _)
   ·rename_i e hu;split at g
    ·cases g
    ·rename_i f aa;by_cases N:P.cellsOf e=f.n∧0<f.n
     ·rw[Ai N] at g;cases g;obtain⟨ad,K⟩:=N;rcases DataW.trod_slice hu h with ⟨rfl,_⟩|⟨a,len,cap,F,rest,n,hn,rfl,hx,_,hle,aO,hlen,X,ap,_⟩
      ·exact ib A (T:={ l:List f.T // l.length≤maxLen }) ⟨[],by simp⟩ .nilSl (.lst [] 0 f.n) rfl .nilSl rfl .lstNil
      ·cases hn;by_cases h0:len=0
       ·subst h0;exact ib A (T:={ l:List f.T // l.length≤maxLen }) ⟨[],by simp⟩ .emp (.lst [] 0 f.n) rfl .emp rfl .lstEmp
       ·
        obtain⟨b,off,spot⟩:=a;have G:∀i,i<cap→∃B,W.cells? 0 ((⟨b,off,spot⟩:Addr).add (i*P.cellsOf e)) (P.cellsOf e)=some B:=by
         intro i hi;by_cases aA:i<len
         ·have:=X i aA;rw[Ah (by omega)] at this;cases Y:W.cells? 0 ((⟨b,off,spot⟩:Addr).add (i*P.cellsOf e)) (P.cellsOf e) with
          |none=>rw[Y] at this;cases this
          |some B=>exact⟨B,rfl⟩
         ·obtain⟨aQ,aB⟩:=ap rfl;have:=aB (i - len) (by omega);rw[show len+(i - len)=i from by omega,Ah (by omega)] at this;cases Y:W.cells? 0 ((⟨b,off,spot⟩:Addr).add (i*P.cellsOf e)) (P.cellsOf e) with
          |none=>rw[Y] at this;cases this
          |some B=>exact⟨B,rfl⟩
        have af:spot=none:=by
         obtain⟨B,he⟩:=G 0 (by omega);obtain⟨_,D,p⟩:=World.cells?_some he;have:=p 0 (by omega);rw[Ah (by omega)] at this;simpa [Addr.add] using World.cell?_spot this
        subst af;have M:∀i j,i<cap→j<f.n→∃v,W.cell? ⟨b,off+(i*f.n+j),none⟩=some v:=by
         intro i j hi U;obtain⟨B,he⟩:=G i hi;obtain⟨_,D,p⟩:=World.cells?_some he;have:=p j (by omega);rw[Ah (by omega)] at this;rw[ad] at this;rw[WideShapes.add_plain,WideShapes.add_plain] at this;rw[←Cs];exact⟨_,this⟩
        obtain⟨v0,Z⟩:=M 0 0 (by omega) K;obtain⟨vs,ty,lo,hi,w⟩:∃vs ty lo hi,W.heap[b]?=some (.cells vs ty (lo,hi)):=by
         unfold World.cell? at Z;dsimp only at Z;split at Z
         ·rename_i vs ty fz w;exact⟨vs,ty,fz.1,fz.2,w⟩
         ·cases Z
        have aC:∀q,q<cap*f.n→∃v,vs[off+q]?=some v:=by
         intro q Y;obtain⟨v,hv⟩:=M (q/f.n) (q%f.n) (by rw[Nat.div_lt_iff_lt_mul K];exact Y) (Df _ K);have:q/f.n*f.n+q%f.n=q:=by rw[Bz];exact Nat.div_add_mod q f.n
         rw[this,xl w] at hv;exact⟨v,hv⟩
        have aq:off+cap*f.n≤vs.size:=by
         have aD:0<cap*f.n:=Nat.mul_pos (by omega) K;obtain⟨v,hv⟩:=aC (cap*f.n - 1) (by omega);have:=(Array.getElem?_eq_some_iff.1 hv).1;omega
        have ar:∀x',x'∈MemPlace.row ⟨b,off,none⟩ (cap*f.n)→x'∈x.2:=by
         intro x' ag;rw[hx];have:(F.length+rest.length)*P.cellsOf e=cap*f.n:=by rw[hlen,(ap rfl).1,ad];congr 1;omega
         rw[this];exact Dk _ ag
        have loop:∀m,m≤len→∃C' H' as,∃V:List f.T,C.le C'∧Rel W C' H' W∧K9 H H'∧(∀a∈as,a.one=true)∧ARs (Mu H') (V.flatMap f.enc) as∧V.length=m∧as.length=m*f.n∧∀q,q<m*f.n→∃a v,as[q]?=some a∧vs[off+q]?=some v∧VR C' a v:=by
         intro m
         induction m with
         |zero=>intro _;exact⟨C,H,[],[],CM.le_refl C,A,.refl H,by simp,.nil,rfl,by simp,fun q Y=>by omega⟩
         |succ m aE =>
          intro hm;obtain⟨C1,H1,O,aF,a1,a2,a3,a4,a5,a6,a7,a8⟩:=aE (by omega);obtain⟨B,he⟩:=G m (by omega);have aw:=X m (by omega);rw[he,Ah (by omega)] at aw;obtain⟨_,D,p⟩:=World.cells?_some he;have aG : W.noneFrozen (F[m]'(by omega)).2 := fun b' E Q => S b' E (by
           rw[hx];exact Ba _ (List.mem_flatMap.2 ⟨F[m]'(by omega), by simp, Q⟩))
          obtain⟨C2,H2,R,y,b1,b2,b3,b4,b5,b6,b7⟩:=ih d e f B _ C1 H1 aa aw aG a2;refine⟨C2,H2,O++R,aF++[y],CM.le_trans a1 b1,b2,a3.trans b3,?_,?_,by simp[a6],?_,?_⟩
          ·intro z S;rcases Ay.1 S with h|h
           ·exact a4 z h
           ·exact b5 z h
          ·rw[List.flatMap_append];refine (a5.mono b3.le).append ?_;simpa using b6
          ·rw[Aj,a7,b7,Bb,Cm]
          ·intro q Y;by_cases aH:q<m*f.n
           ·obtain⟨a,v,c1,c2,c3⟩:=a8 q aH;exact⟨a,v,by rw[Aq (by omega)];exact c1,c2,c3.mono b1⟩
           ·have aR:q - m*f.n<f.n:=by rw[Bb,Cm] at Y;omega
            obtain⟨a,v,c1,c2,c3⟩:=b4.get' (i:=q - m*f.n) (by omega);refine⟨a,v,by rw[Au (by omega),a7];exact c1,?_,c3⟩;have:=p (q - m*f.n) (by omega);rw[ad,WideShapes.add_plain,WideShapes.add_plain,xl w,c2] at this;rw[←this]
            congr 1
            omega
        obtain⟨C1,H1,as,V,a1,a2,a3,a4,a5,a6,a7,a8⟩:=loop len (Am _);have aI:b<W.heap.size:=by
         have:=(Array.getElem?_eq_some_iff.1 w).1;exact this
        have aP:len*f.n≤cap*f.n:=At _ hle;have aJ:∀q,off≤q→q<off+cap*f.n→¬(lo≤q∧q<hi):=by
         intro q h1 h2;have:=zk3 S (fun x' ag=>ar x' ag) (i:=q - off) (n:=cap*f.n) (by omega);rw[show off+(q - off)=q from by omega] at this;unfold World.frozen? at this;dsimp only at this;rw[w] at this;simp at this;omega
        obtain⟨c1,c2⟩:=a2.ro (L:=⟨b,off,len*f.n,off+cap*f.n⟩) aI (l:=as) (fun ax L hL=>by
         rw[CM.ext_same] at hL;cases hL;refine⟨by rw[a7],fun e=>(by cases e),by show off+as.length≤off+cap*f.n;omega,vs,ty,lo,hi,w,aq,aJ,?_⟩;intro q Y;rw[get_ofList,Ai (by omega)];obtain⟨a,v,d1,d2,d3⟩:=a8 q (by omega);exact⟨a,by simpa using d1,a4 a (A7 d1),v,d2,d3.mono ax⟩)
        have hg:K9 H1 (H1.push (.cells (Ju as 0 .e) as.length 0 true)):=⟨Eg _,fun o ho=>Heap.get_push_ne _ _ ho⟩;refine⟨_,_,[.sl H1.next 0 0 len f.n none],(⟨V,by omega⟩:{ l:List f.T // l.length≤maxLen }),CM.le_trans a1 c2,c1,a3.trans hg,.cons ?_ .nil,by simp[AV.one],?_,rfl⟩
        ·exact VR.sl (L:=⟨b,off,len*f.n,off+cap*f.n⟩) (i:=0) (CM.ext_same _ _ _ _) (by dsimp only;omega) (by dsimp only;omega) hle (fun r e=>by cases e) (fun _=>rfl)
        ·show ARs _ [LV.lst (V.flatMap f.enc) V.length f.n] _;rw[a6];refine .cons (.lst (B2 H1.next) (fun r e=>by cases e) ?_ ?_ (a5.mono hg.le)) .nil
         ·have:=a5.length;omega
         ·have hr:=Pj (H:=H1.push (.cells (Ju as 0 .e) as.length 0 true)) (i:=0) (n:=len*f.n) (Heap.get_push_same _ _) (zs as) (Am _) (by omega);rw[C7,Ax (by omega)] at hr;exact hr
     ·rw[Ab N] at g;cases g
   ·rename_i fs hu;split at g
    ·cases g
    ·rename_i l D;cases g;obtain⟨xs,n,hn,hx,ah,ay,aK⟩:=DataW.trod_struct hu h;cases hn;have key:∀(fl:List Field) (j off:Nat) (l:ShL) (C:CM) (H:Heap),fs.toList.drop j=fl→Uy P (O3 P d) (P.cellsOf t) fl off=some l→Rel W C H W→Got W C H (cs.drop off) l.n l.T l.enc:=by
      intro fl
      induction fl with
      |nil =>
       intro j off l C H U D A;simp only[Uy] at D;split at D
       ·rename_i he;cases D;refine⟨C,H,[],(():Unit),CM.le_refl C,A,.refl H,?_,by simp,.nil,rfl⟩;rw[he,←ah,List.drop_length];exact .nil
       ·cases D
      |cons fd fl aL =>
       intro j off l C H U D A;simp only[Uy] at D;split at D
       ·cases D
       ·rename_i s g;by_cases N:fd.offset=off∧P.cellsOf fd.type=s.n
        ·rw[Ai N] at D;split at D
         ·cases D
         ·rename_i r hr;cases D;have aj:j<fs.toList.length:=by
           rcases C4 j fs.toList.length with h|h
           ·exact h
           ·rw[List.drop_eq_nil_of_le h] at U;cases U
          have aM:fs[j]?=some fd:=by
           rw[B8 aj] at U;injection U with h1 h2
           rw[←h1];simp
          have I:=aK j fd aM;rw[N.1,N.2] at I;have ao:j<xs.length:=by rw[ay];simpa using aj
          rw[Ah ao] at I;obtain⟨C1,H1,O,y,a1,a2,a3,a4,a5,a6,a7⟩:=ih d fd.type s _ _ C H g I (fun b' E Q=>S b' E (by rw[hx];exact List.mem_flatMap.2 ⟨_,by simp,Q⟩)) A;obtain⟨C2,H2,R,V,b1,b2,b3,b4,b5,b6,b7⟩:=aL (j+1) (off+s.n) r C1 H1 (by rw[B8 aj] at U;injection U) hr a2;refine⟨C2,H2,O++R,(y,V),CM.le_trans a1 b1,b2,a3.trans b3,?_,?_,(a6.mono b3.le).append b6,by rw[Aj,a7,b7];rfl⟩
          ·have:=(a4.mono b1).append b4
           rwa [←List.drop_drop,List.take_append_drop] at this
          ·intro z S;rcases Ay.1 S with h|h
           ·exact a5 z h
           ·exact b5 z h
        ·rw[Ab N] at D;cases D
     have:=key fs.toList 0 0 l C H (by simp) D A;rw[C7] at this;exact this
   ·rename_i n e hu;split at g
    ·cases g
    ·rename_i f aa;by_cases N:P.cellsOf e=f.n∧P.cellsOf t=n*f.n
     case neg=>rw[Ab N] at g;cases g
     rw[Ai N] at g;cases g;obtain⟨xs,m,hm,hx,ah,ay,X⟩:=DataW.trod_array hu h;cases hm;have key:∀(k j:Nat) (C:CM) (H:Heap),j+k=n→Rel W C H W→Got W C H (cs.drop (j*f.n)) (zxg k f).n (zxg k f).T (zxg k f).enc:=by
      intro k
      induction k with
      |zero =>
       intro j C H U A;refine⟨C,H,[],(():Unit),CM.le_refl C,A,.refl H,?_,by simp,.nil,rfl⟩;rw[show j=n by omega,←N.2,←ah,List.drop_length];exact .nil
      |succ k aN =>
       intro j C H U A;have I:=X j (by omega);rw[N.1] at I;have ao:j<xs.length:=by omega
       rw[Ah ao] at I;obtain⟨C1,H1,O,y,a1,a2,a3,a4,a5,a6,a7⟩:=ih d e f _ _ C H aa I (fun b' E Q=>S b' E (by rw[hx];exact List.mem_flatMap.2 ⟨_,by simp,Q⟩)) A;obtain⟨C2,H2,R,V,b1,b2,b3,b4,b5,b6,b7⟩:=aN (j+1) C1 H1 (by omega) a2;refine⟨C2,H2,O++R,(y,V),CM.le_trans a1 b1,b2,a3.trans b3,?_,?_,(a6.mono b3.le).append b6,by rw[Aj,a7,b7];rfl⟩
       ·have:=(a4.mono b1).append b4
        rwa [D5,←List.drop_drop,List.take_append_drop] at this
       ·intro z S;rcases Ay.1 S with h|h
        ·exact a5 z h
        ·exact b5 z h
     have:=key n 0 C H (by omega) A;rw[Dc,C7] at this;exact this
   ·cases g
end imp
end Go.Sv
end
namespace Go.Sv
open Go.RowKit Go.ChangeShapes Go.WideShapes Go.ChangeAt
def Sh.arg:(s:Sh)→s.T→LV
 |.st l,x=>.agg (l.enc x)
 |.bool,x=>.bool x
 |.u,x=>.u x
 |.b,x=>.b x
 |.i,x=>.i x.1
 |.k kk,x=>.int kk x
 |.str,x=>.str x.1
 |.sl s,x=>.lst (x.1.flatMap s.enc) x.1.length s.n
def ShL.args:(l:ShL)→l.T→List LV
 |.nil,_=>[]
 |.cons s l,x=>s.arg x.1::l.args x.2
section law
variable {H : Type} {enc : TypeId × Value → H} {P : Program}
def zsb {W:World}{d base:Nat}:∀{D:List TypeId} {l:ShL} {args:List Value} {I:List (DataW H)} {E:List MemPlace} {C:CM} {Hp:Heap},wx P d D=some l→DataW.TrodAll enc P W 0 (fun _=>true) true D args I E→W.noneFrozen E →
  (∀(j:Nat) (t:TypeId) (v:Value),D[j]?=some t→args[j]?=some v→Value.okWide P W .any base t v)→Rel W C Hp W→∃J H' as,∃y:l.T,C.le J∧Rel W J H' W∧K9 Hp H'∧VRs J as args∧ARs (Mu H') (l.args y) as
 |[],l,args,I,E,C,Hp,h,K,_,_,M=>by
  cases h;obtain⟨rfl,_,_⟩:=trodAll_nil K;exact⟨C,Hp,[],(():Unit),CM.le_refl C,M,.refl Hp,.nil,.nil⟩
 |t::D,l,args,I,E,C,Hp,h,K,S,hv,M=>by
  simp only[wx] at h;split at h
  ·cases h
  ·rename_i s f;by_cases T:P.cellsOf t=s.n
   ·rw[Ai T] at h;split at h
    ·cases h
    ·rename_i r Z;cases h;obtain⟨v,vs,dd,aa,p,q,rfl,rfl,rfl,⟨x,hd⟩,w⟩:=trodAll_cons K;obtain⟨N,H1,z,y,a1,a2,a3,F,U,G,a7⟩:=got_cells x d t s _ _ C Hp f hd (fun b o O=>S b o (Dk _ O)) M;obtain⟨C2,H2,Q,ys,V,b2,X,b4,b5⟩:=zsb (C:=N) (Hp:=H1) Z w (fun b o O=>S b o (Ba _ O)) (fun j t' v' A Y=>hv (j+1) t' v' (by simpa using A) (by simpa using Y)) a2;have g:=hv 0 t v rfl rfl;have one:∃a,VR N a v∧AR (Mu H1) (s.arg y) a:=by
      cases d with
      |zero=>cases f
      |succ d =>
       have single:∀{L:LV},s.enc y=[L]→s.arg y=L→v.cells.toList=[v]→∃a,VR N a v∧AR (Mu H1) (s.arg y) a:=by
        intro L e1 e2 e3;rw[e3] at F;rw[e1] at G;cases F with
        |cons A Y =>
         cases G with
         |cons h3 h4=>exact⟨_,A,by rw[e2];exact h3⟩
       simp only[O3] at f;split at f
       ·rename_i hu;cases f;obtain⟨b,rfl⟩:=okWide_bool hu g;exact single rfl rfl rfl
       ·rename_i k hu;obtain⟨n,rfl⟩:=okWide_int hu g;split at f<;>cases f<;>exact single rfl rfl rfl
       ·rename_i hu;cases f;obtain⟨b,rfl⟩:=okWide_string hu g;exact single rfl rfl rfl
       ·rename_i e hu;obtain⟨a,len,cap,rfl⟩:=okWide_slice hu g;split at f
        ·cases f
        ·rename_i B R;by_cases m:P.cellsOf e=B.n∧0<B.n
         ·rw[Ai m] at f;cases f;exact single rfl rfl rfl
         ·rw[Ab m] at f;cases f
       ·rename_i fs hu;obtain⟨cs,rfl,_⟩:=okWide_struct hu g;split at f
        ·cases f
        ·rename_i l hl;cases f;exact⟨.agg z,.agg F U,.agg G⟩
       ·rename_i n e hu;obtain⟨cs,rfl⟩:∃cs,v=.agg cs:=by
         simp only[Value.okWide,hu] at g;obtain⟨cs,A,_⟩:=g;exact⟨cs,A⟩
        split at f
        ·cases f
        ·rename_i B R;by_cases m:P.cellsOf e=B.n∧P.cellsOf t=n*B.n
         ·rw[Ai m] at f;cases f;exact⟨.agg z,.agg F U,.agg G⟩
         ·rw[Ab m] at f;cases f
       ·cases f
     obtain⟨a,o1,o2⟩:=one;exact⟨C2,H2,a::Q,(y,ys),CM.le_trans a1 V,b2,a3.trans X,.cons (o1.mono V) b4,.cons (o2.mono X.le) b5⟩
   ·rw[Ab T] at h;cases h
def Zs {f d base:Nat}{a:List TypeId}{l:ShL}(hm:P.follows .mixedOrders=true)(g:wx P d a=some l)(h:∀y:l.T,Js P (.fn f) (l.args y) [] fun v _=>v=.bool true){W:World}{args:Array Value}{r:List (DataW H)}{q:List MemPlace}
  (s:DataW.TrodAll enc P W 0 (fun _=>true) true a args.toList r q) (w:W.noneFrozen q) (hv:∀(j:Nat) (t:TypeId) (v:Value),a[j]?=some t→args.toList[j]?=some v→Value.okWide P W .any base t v) :
  Calls P f args W fun e w'=>e=.returned (.bool true)∧Below W.heap.size W w':=by
 obtain⟨C,Hp,as,y,_,x,_,z,p⟩:=zsb g s w hv (Rel.start W);obtain⟨m,v1,H',A,c',v,G',K,L,M,B,D⟩:=(h y).2 (Mu Hp) (.fn f) as (HSim.empty (fun o ho=>ho)) rfl p;subst D;cases B;intro cs;obtain⟨N,w',O,fr,Q,E,F,G,I,J⟩:=zjh hm (Vq P) m W _ _ W (.fn f) as _ _ _ x z A cs;cases F;exact⟨.returned (.bool true),w',fr,⟨rfl,E.low⟩,G,I,J⟩
def zn2 (r:laidOutB P=true){W s:World}(w:Below W.heap.size W s){sp:Nat→Bool}:∀{j:List TypeId} {vs:List Value} {m:List (DataW H)} {l:List MemPlace},(∀t∈j,P.readableRec t=true∧t<P.types.size)→DataW.TrodAll enc P W 0 (fun _=>true) true j vs m l →
  (∀x∈l,x.block<W.heap.size)→(∀x∈l,sp x.block=true)→DataW.TrodAll enc P s 0 sp true j vs m l
 |[],[],[],_,_,h,_,_=>h
 |t::j,v::vs,d::m,_,o,⟨p,q,y,z,e⟩,f,g=>by
  subst e;exact⟨p,q,WideElems.Trod_stays r (o t (by simp)).1 (o t (by simp)).2 y (fun x a=>w.same (f x (Dk _ a))) (fun x a=>g x (Dk _ a)),
   zn2 r w (fun A B=>o A (by simp[B])) z (fun x a=>f x (Ba _ a)) (fun x a=>g x (Ba _ a)),rfl⟩
 |[],[],_::_,_,_,h,_,_=>h.elim
 |[],_::_,_,_,_,h,_,_=>h.elim
 |_::_,[],_,_,_,h,_,_=>h.elim
 |_::_,_::_,[],_,_,h,_,_=>h.elim
def Xf {f:Func}{s:ChangeSpec}{apart fresh handsOn again:Bool}{W z:World}{args:Array Value}{m gs:List (DataW H)}{before:List MemPlace}{A:TypeId}(B:DataW.Whole enc P f.params.toList s.vars apart W args.toList m gs before)(a:s.vars=[])
  (h:∀j:List (DataW H),j.length=f.params.toList.length→s.fn H j={ results:=[.lit (.bool true)],args:=j }) (C:Below W.heap.size W z) (F:laidOutB P=true) (G:∀t∈f.params.toList,P.readableRec t=true∧t<P.types.size)
  (g:f.resultTypes=#[A]) (d:P.underlying A=some .bool):s.post enc P f apart fresh handsOn again W args (.bool true) z:=by
 have o:=B;obtain⟨p,q,D,E,rfl,I,J⟩:=B;rw[a] at E;obtain⟨rfl,rfl⟩:=trodVars_none E;have hlen:m.length=f.params.toList.length:=(trodAll_length D).2;have K:=h m hlen;have l:s.fn H (m++[])={ results:=[.lit (.bool true)],args:=m }:=by rw[Bx];exact K
 have r:=o.lt;refine zuf (pa:=p) (pv:=[]) o (fun b sp hd=>?_) (fun sp w=>?_) (fun sp _=>?_) rfl C ?_
 ·rw[l,g];exact trodAll_cons_mk (shut_bool d _) trodAll_mk0
 ·rw[l];exact zn2 F C G D (fun x y=>r x (by simp[y])) (fun x y=>w x (by simp[y]))
 ·rw[l,a];rfl
 ·exact ok_one g rfl (okWide_bool_mk d _)
end law
end Go.Sv
namespace Go.Sv
def He (G:Ev)(v d:LV):Prop:=match v with
 |.tup l=>∃r,d=.tup r∧bors G l r
 |v=>bor G v d
def La (P:Program)(f:Nat)(args:List LV)(g:LV):Prop :=
 xj P (.fn f)∧g.dat=true∧∀(Fz:Nat→Prop) (H:Heap) (a:List AV),(∀o,Fz o→o<H.next)→ARs ⟨[],Fz,H⟩ args a →
  ∃(m:Nat) (v1:AV) (d:Nat→Prop) (H':Heap),Kq P (OL P) m (.fn f) a H=.ok v1 H'∧H.next≤H'.next∧(∀o,Fz o→d o)∧(∀o,d o→o<H'.next∧(Fz o∨H.next≤o))∧(∀o,o<H.next→H'.get o=H.get o)∧AR ⟨[],d,H'⟩ g v1
section calls
variable {P : Program}
def Z6 {c:Cx}{G:Ev}(j:HSim c G)(v d:LV)(a:AV)(g:He G v d)(h:AR c v a):AR ⟨[],fun o=>c.Fz o∨Hw c G o,c.H⟩ d a:=by
 unfold He at g;split at g
 ·obtain⟨r,rfl,g⟩:=g;cases h with
  |tup h=>exact .tup (bors_ok j _ _ _ g h)
 ·exact bor_ok j _ _ _ g h
def La.mk {f:Nat}{args:List LV}{v0:LV}(hd:v0.dat=true)(h:Js P (.fn f) args [] fun v G=>He G v v0):La P f args v0:=by
 refine⟨h.1,hd,fun Fz H aa af ha=>?_⟩;obtain⟨m,v1,H',q1,c1,v,G,rfl,q3,q4,q5,q6⟩:=h.2 ⟨[],Fz,H⟩ (.fn f) aa (.empty af) rfl ha;have ad:∀o,¬Hw ⟨[],Fz,H⟩ [] o:=fun o ⟨p,_,_,_,e,_⟩=>by simp at e
 refine⟨m,v1,_,c1.H,q1,q4.nx,fun o ho=>.inl (q4.le.fz o ho).1,fun o ho=>⟨ho.elim (q3.fz o) (q3.lt o),?_⟩,fun o ho=>q4.frame o ho (ad o),Z6 q3 v v0 v1 q6 q5⟩;rcases ho with ho|ho
 ·rcases q4.fznew o ho with h|h|h
  ·exact .inl h
  ·exact absurd h (ad o)
  ·exact .inr h
 ·rcases q4.new o ho with h|h
  ·exact absurd h (ad o)
  ·exact .inr h
def zym {c:Cx}{G:Ev}(l:HSim c G){d:Nat→Prop}{H':Heap}(z:c.H.next≤H'.next)(B:∀o,c.Fz o→d o)(x:∀o,d o→o<H'.next∧(c.Fz o∨c.H.next≤o))(s:∀o,o<c.H.next→H'.get o=c.H.get o) :
  HSim ⟨c.hd,d,H'⟩ G∧Step c G ⟨c.hd,d,H'⟩ G:=by
 have hle:CxLe c ⟨c.hd,d,H'⟩:=⟨fun p k h e=>⟨k,h,e,Am _,fun _=>rfl,fun _=>rfl⟩,fun o ho=>⟨B o ho,s o (l.fz o ho)⟩⟩;have a:∀o,Hw ⟨c.hd,d,H'⟩ G o→Hw c G o:=fun o ⟨p,ob,k,h,j,g,m,r⟩=>⟨p,ob,k,h,j,g,m,r⟩
 refine⟨⟨l.len,fun o ho=>(x o ho).1,fun o ho=>Bg (l.lt o (a o ho)) z,fun o ho C=>?_,fun p ob k h j g=>?_,fun p q ob ob' k h k' E o j g m r y A F H=>l.excl p q ob ob' k h k' E o j g m r y A F H⟩,?_⟩
 ·rcases (x o C).2 with h|h
  ·exact l.sep o (a o ho) h
  ·have:=l.lt o (a o ho);omega
 ·by_cases w:ob.live=true
  ·exact (l.obj p ob k h j g).mono hle (fun o ho=>s o (l.lt o ⟨p,ob,k,h,j,w,g,ho⟩))
  ·cases ob<;>first|exact absurd rfl w|trivial
 ·refine⟨hle,z,fun o ho _=>s o ho,fun o ho=>.inl (a o ho),fun o ho=>(x o ho).2.elim .inl (fun h=>.inr (.inr h)),fun p ob ob' j g=>?_,fun p ob ob' k h o j g m r y A=>?_⟩
  ·rw[j] at g;cases g;exact Am _
  ·rw[j] at g;cases g;have w:ob.live=true:=by cases ob<;>first|rfl|cases y
   exact⟨rfl,s o (l.lt o ⟨p,ob,k,h,j,w,m,r⟩),rfl⟩
def Jo {f:Nat}{args:List LV}{l:LV}{G:Ev}{K:LV→Ev→Prop}(q:La P f args l)(r:dats args=true)(k:K l G):Js P (.fn f) args G K:=by
 obtain⟨s,hd,h⟩:=q;refine⟨s,fun c t1 a p j w=>?_⟩;cases t1 with
 |yield o=>exact j.elim
 |fn g =>
  obtain rfl:f=g:=j;obtain⟨m,v1,d,H',x,y,z,A,B,C⟩:=h c.Fz c.H a p.fz (ARs.dat (c:=c) (c':=⟨[],c.Fz,c.H⟩) (fun o ho=>⟨ho,rfl⟩) args a r w);obtain⟨E,F⟩:=zym p y z A B;exact⟨m,v1,H',x,⟨c.hd,d,H'⟩,l,G,rfl,E,F,AR.dat (c:=⟨[],d,H'⟩) (c':=⟨c.hd,d,H'⟩) (fun o ho=>⟨ho,rfl⟩) l v1 hd C,k⟩
mutual
def LV.flat:LV→Bool
 |.bool _ |.u _ |.b _ |.i _ |.int _ _ |.str _ |.nilPtr |.nilSl |.nilMap |.nilFn |.nilIf=>true
 |.agg l=>flats l
 |.tup l=>flats l
 |_=>false
def flats:List LV→Bool
 |[]=>true
 |v::l=>v.flat&&flats l
end
mutual
def AR.flat {c c':Cx}(v:LV)(a:AV)(hd:v.flat=true)(h:AR c v a):AR c' v a:=by
 cases v with
 |agg l =>
  simp only[LV.flat] at hd;cases h with
  |agg h=>exact .agg (ARs.flat l _ hd h)
 |tup l =>
  simp only[LV.flat] at hd;cases h with
  |tup h=>exact .tup (ARs.flat l _ hd h)
 |_=>first|(simp only[LV.flat] at hd;cases hd;done)|(cases h;constructor)
termination_by SizeOf.sizeOf v
def ARs.flat {c c':Cx}(l:List LV)(r:List AV)(hd:flats l=true)(h:ARs c l r):ARs c' l r:=by
 cases l with
 |nil=>cases h;exact .nil
 |cons v l =>
  simp only[flats,Ac] at hd;cases h with
  |cons e es=>exact .cons (AR.flat v _ hd.1 e) (ARs.flat l _ hd.2 es)
termination_by SizeOf.sizeOf l
end
end calls
def zqw {P:Program}{f:Nat}{G:Ev}{K:LV→Ev→Prop}(h:xj P (.fn f))(j:ua P f=true)(l:z8v P f)(k:K (.bool true) G):Js P (.fn f) [] G K:=by
 refine⟨h,fun c t1 d m a p=>?_⟩;cases t1 with
 |yield o=>exact a.elim
 |fn g =>
  obtain rfl:f=g:=a;cases p;refine⟨1,.bool true,c.H,?_,c,.bool true,G,rfl,m,.refl c G,.bool true,k⟩;unfold Kq;dsimp only;rw[mv j l]
section cuts
variable {P : Program} {f n : Nat} {ro : Option Nat} {ρ : Ey} {D : List Nat} {G : Ev} {Q : Ip}
def zum {b c:LC}:Pv P f n ro (.seq b c) Q=Pv P f n ro b (Pv P f n ro c Q):=by
 funext x ρ D G
 cases x<;>rfl
def ym {a b c:LC}:wp P f n ro (.seq a (.seq b c)) ρ D G Q=wp P f n ro (.seq (.seq a b) c) ρ D G Q:=by
 rw[wp_seq,wp_seq,wp_seq,zum]
def zvn {a b:LC}(Φ:Ey→List Nat→Ev→Prop)(j:∀h:Ey→List Nat→Ev→Prop,(∀(d:Ey) (g:List Nat) (G':Ev),Φ d g G'→h d g G')→wp P f n ro a ρ D G (vu h Q))
  (l:∀(d:Ey) (g:List Nat) (G':Ev),Φ d g G'→wp P f n ro b d g G' Q):wp P f n ro (.seq a b) ρ D G Q:=by
 rw[wp_seq];exact j (fun d g G'=>wp P f n ro b d g G' Q) l
end cuts
attribute [simp] He LV.flat flats
end Go.Sv
namespace Go.Sv
def Zu (b:Nat)(G:Ev)(v:LV)(esz n:Nat)(l:List LV):Prop :=
 (v=.nilSl∧n=0∧l=[])∨∃(p k:Nat) (R:List LV) (m st:Nat),b≤p∧G[p]?=some (.dyn R m esz k st)∧R.length=m*esz∧n≤m∧l=R.take (n*esz)∧((v=.dy p k∧n=m)∨v=.vw p k 0 n)
section stk
variable {b : Nat} {G G' : Ev} {v : LV} {esz n : Nat} {l x : List LV}
def Zu.length (h:Zu b G v esz n l):l.length=n*esz:=by
 rcases h with ⟨_,rfl,rfl⟩|⟨p,k,R,m,st,_,_,h2,h3,rfl,_⟩
 ·simp
 ·have:=At esz h3;rw[Cr];omega
def Zu.lenL (h:Zu b G v esz n l){K:Nat→Prop}(k:K n):lenL G v K:=by
 rcases h with ⟨rfl,rfl,_⟩|⟨p,aa,R,m,st,_,h1,_,_,_,⟨rfl,rfl⟩|rfl⟩
 ·exact k
 ·rw[lenL_dy,h1];exact⟨rfl,k⟩
 ·rw[lenL_vw,h1];exact⟨rfl,k⟩
def Zu.ix (h:Zu b G v esz n l){i:Int}(h0:0≤i)(hi:i<n){K:LV→Prop}
  (k:∀(p aa:Nat) (R:List LV) (m st:Nat),b≤p→G[p]?=some (.dyn R m esz aa st)→(∀j,j<n*esz→R[j]?=l[j]?)→n*esz≤R.length→K (.dptr p aa (i.toNat*esz))):Th G esz v i K:=by
 rcases h with ⟨rfl,rfl,rfl⟩|⟨p,aa,R,m',st,h1,h2,h3,h4,rfl,⟨rfl,rfl⟩|rfl⟩
 ·omega
 ·rw[zx4,h2];exact⟨rfl,rfl,h0,hi,k _ _ _ _ _ h1 h2 (fun j hj=>by rw[Ch hj]) (by omega)⟩
 ·rw[zvq,h2];have:=At esz h4;refine⟨rfl,rfl,h0,hi,?_⟩;rw[Bd];exact k _ _ _ _ _ h1 h2 (fun j hj=>by rw[Ch hj]) (by omega)
def Rw (b:Nat)(G:Ev)(v:LV)(esz n:Nat)(l:List LV):Prop :=
 (v=.nilSl∧n=0∧l=[])∨∃(p k st:Nat),b≤p∧v=.dy p k∧G[p]?=some (.dyn l n esz k st)∧l.length=n*esz
def Rw.nil:Rw b G .nilSl esz 0 []:=.inl ⟨rfl,rfl,rfl⟩
def Rw.frame (h:Rw b G v esz n l)(hf:∀q,b≤q→G'[q]?=G[q]?):Rw b G' v esz n l:=by
 rcases h with h|⟨p,k,st,h1,h2,h3,h4⟩
 ·exact .inl h
 ·exact .inr ⟨p,k,st,h1,h2,by rw[hf p h1];exact h3,h4⟩
def Rw.set_lt (h:Rw b G v esz n l){q:Nat}{ob:LObj}(hq:q<b):Rw b (G.set q ob) v esz n l :=
 h.frame fun r hr=>Ad (by omega)
def Rw.push_end (h:Rw b G v esz n l){ob:List LObj}:Rw b (G++ob) v esz n l:=by
 rcases h with h|⟨p,k,st,h1,h2,h3,h4⟩
 ·exact .inl h
 ·exact .inr ⟨p,k,st,h1,h2,by rw[Aq (Aa.1 h3).1];exact h3,h4⟩
def Rw.push (h:Rw b G v esz n l)(hz:0<esz)(hb:b≤G.length)(hn:n≤1000000000){m:Nat}(hx:x.length=m*esz){K:LV→Ev→Prop}
  (k:∀v' G',Rw b G' v' esz (n+m) (l++x)→(∀q,q<b→G'[q]?=G[q]?)→b≤G'.length→K v' G'):Hz G esz v m x K:=by
 rcases h with ⟨rfl,rfl,rfl⟩|⟨p,aa,st,h1,rfl,h2,h3⟩
 ·rw[appL_nil];refine k _ _ (.inr ⟨_,0,0,hb,rfl,?_,by simpa using hx⟩) (fun q hq=>Aq (by omega)) (by simp;omega);rw[Bd];exact Aw
 ·have hp:p<G.length:=(Aa.1 h2).1;rw[appL_dy,h2];exact⟨rfl,⟨rfl,hz⟩,hn,k _ _ (.inr ⟨p,aa+1,st+1,h1,rfl,Ag hp,by rw[Aj,h3,hx,Bb]⟩) (fun q hq=>Ad (by omega)) (by rw[Ce];exact hb)⟩
def Rw.cells (h:Rw b G v esz n l):v.cells=some [v]:=by
 rcases h with ⟨rfl,_⟩|⟨_,_,_,_,rfl,_⟩<;>rfl
def Rw.bor (h:Rw b G v esz n l)(hd:dats l=true):Go.Sv.bor G v (.lst l n esz):=by
 rcases h with ⟨rfl,rfl,rfl⟩|⟨p,k,st,_,rfl,h2,_⟩
 ·exact .inr ⟨_,rfl⟩
 ·exact⟨_,_,_,_,rfl,h2,hd⟩
def Zu.cells (h:Zu b G v esz n l):v.cells=some [v]:=by
 rcases h with ⟨rfl,_⟩|⟨_,_,_,_,_,_,_,_,_,_,⟨rfl,_⟩|rfl⟩<;>rfl
end stk
end Go.Sv
namespace Go.Sv
def HSim.freeze' {c:Cx}{G:Ev}(hs:HSim c G){p k st:Nat}{x:AV}{ob:LObj}(hG:G[p]?=some ob)(hl:ob.live=true)(ah:ob.st<st)(hp:c.hd[p]?=some (k,x)) :
  HSim ⟨c.hd,fun q=>c.Fz q∨Gb x=some q,c.H⟩ (G.set p (.dead st))∧Step c G ⟨c.hd,fun q=>c.Fz q∨Gb x=some q,c.H⟩ (G.set p (.dead st)):=by
 have aj:p<G.length:=(Aa.1 hG).1;have hle:CxLe c ⟨c.hd,fun q=>c.Fz q∨Gb x=some q,c.H⟩:=⟨fun p k h e=>⟨k,h,e,Am _,fun _=>rfl,fun _=>rfl⟩,fun q hq=>⟨.inl hq,rfl⟩⟩;have af:∀q,Gb x=some q→Hw c G q:=fun q hq=>⟨p,ob,k,x,hG,hl,hp,hq⟩
 have hinv:∀{q:Nat} {aa:LObj},(G.set p (.dead st))[q]?=some aa→(q=p∧aa=.dead st)∨(q≠p∧G[q]?=some aa):=by
  intro q aa e;by_cases hq:q=p
  ·subst hq;rw[Ag aj] at e;cases e;exact .inl ⟨rfl,rfl⟩
  ·rw[Ad (Ne.symm hq)] at e;exact .inr ⟨hq,e⟩
 have ad:∀q,Hw ⟨c.hd,fun q=>c.Fz q∨Gb x=some q,c.H⟩ (G.set p (.dead st)) q→Hw c G q∧Gb x≠some q:=by
  rintro q ⟨p1,aa,k1,h1,e1,e2,e3,e4⟩;rcases hinv e1 with ⟨_,rfl⟩|⟨ao,e1⟩
  ·cases e2
  ·exact⟨⟨p1,aa,k1,h1,e1,e2,e3,e4⟩,fun hq=>ao (hs.excl p1 p aa ob k1 h1 k x q e1 hG e2 hl e3 hp e4 hq)⟩
 refine⟨⟨by simp[hs.len],fun q hq=>hq.elim (hs.fz q) (fun e=>hs.lt q (af q e)),fun q hq=>hs.lt q (ad q hq).1,fun q hq hf=>hf.elim (hs.sep q (ad q hq).1) (ad q hq).2,fun q aa k1 h1 e1 e2=>?_,?_⟩,⟨hle,Am _,fun _ _ _=>rfl,fun q hq=>.inl (ad q hq).1,fun q hq=>hq.elim .inl (fun e=>.inr (.inl (af q e))),fun q aa ag e1 e2=>?_,fun q aa ag k1 h1 o1 e1 e2 e3 e4 e5 e6=>?_⟩⟩
 ·rcases hinv e1 with ⟨_,rfl⟩|⟨_,e1⟩
  ·trivial
  ·by_cases ap:aa.live=true
   ·exact (hs.obj q aa k1 h1 e1 e2).mono hle (fun _ _=>rfl)
   ·cases aa<;>first|exact absurd rfl ap|trivial
 ·intro q r aa ag k1 h1 k2 h2 o1 e1 e2 e3 e4 e5 e6 e7 e8;rcases hinv e1 with ⟨_,rfl⟩|⟨_,e1⟩
  ·cases e3
  ·rcases hinv e2 with ⟨_,rfl⟩|⟨_,e2⟩
   ·cases e4
   ·exact hs.excl q r aa ag k1 h1 k2 h2 o1 e1 e2 e3 e4 e5 e6 e7 e8
 ·rcases hinv e2 with ⟨rfl,rfl⟩|⟨_,e2⟩
  ·rw[hG] at e1;cases e1;exact Ek ah
  ·rw[e1] at e2;cases e2;exact Am _
 ·rcases hinv e2 with ⟨rfl,rfl⟩|⟨_,e2⟩
  ·rw[hG] at e1;cases e1;have:ob.st=st:=e6;omega
  ·rw[e1] at e2;cases e2;exact⟨rfl,rfl,rfl⟩
def ARs.parts {c:Cx}:∀{a b:List LV} {v:LV} {r:List AV},ARs c (a++v::b) r→∃ra x rb,r=ra++x::rb∧ARs c a ra∧AR c v x∧ARs c b rb
 |[],b,v,r,h=>by
  cases h with
  |cons e es=>exact⟨[],_,_,rfl,.nil,e,es⟩
 |w::a,b,v,r,h=>by
  cases h with
  |cons e es =>
   obtain⟨ra,x,rb,rfl,h1,h2,h3⟩:=ARs.parts (a:=a) es;exact⟨_::ra,x,rb,rfl,.cons e h1,h2,h3⟩
def ARs.join {c:Cx}:∀{a b:List LV} {v:LV} {ra rb:List AV} {x:AV},ARs c a ra→AR c v x→ARs c b rb→ARs c (a++v::b) (ra++x::rb)
 |[],_,_,_,_,_,h1,h2,h3=>by cases h1;exact .cons h2 h3
 |_::a,_,_,_,_,_,h1,h2,h3=>by
  cases h1 with
  |cons e es=>exact .cons e (ARs.join es h2 h3)
def Ye {P:Program}{t:LTgt}{a b:List LV}{p k len esz st:Nat}{l:List LV}{G:Ev}{K:LV→Ev→Prop}(C:G[p]?=some (.dyn l len esz k st))(h:Js P t (a++.lst l len esz::b) (G.set p (.dead (st+1))) K) :
  Js P t (a++.dy p k::b) G K:=by
 refine⟨h.1,fun c t1 j s w J=>?_⟩;obtain⟨ra,x,rb,rfl,L,M,N⟩:=J.parts;cases M with
 | @dy _ _ k' D _ e hk y O =>
  obtain⟨r0,z,d⟩:=s.obj p _ _ _ C e;have A:=y (by omega);obtain⟨E,g⟩:=s.freeze' (st:=st+1) C rfl (B2 _) e;have Q:AR ⟨c.hd,fun q=>c.Fz q∨Gb D=some q,c.H⟩ (.lst l len esz) x:=by
   rw[A];rcases d with ⟨d,B⟩|⟨o,v,room,t,F,l',d,B,R,S,H,T,r8⟩
   ·subst B;have U:l=[]:=A0 (by simpa using z);subst U;rw[d];exact .lstNil
   ·have V:l'.length=len*esz:=by rw[←H.length];exact z
    have I:=Pj (i:=0) (n:=len*esz) B S R (by omega);rw[C7,Ax (by omega)] at I;rw[d];exact .lst (.inr rfl) (fun r e=>(T r e).2) z I (H.mono (d ▸ g.le))
  have f:nw ⟨c.hd,fun q=>c.Fz q∨Gb D=some q,c.H⟩ t t1:=by
   cases t<;>cases t1<;>exact w
  obtain⟨m,v1,H',W,X,v,Y,Z,q3,q4,q5,q6⟩:=h.2 _ t1 _ E f (.join (L.mono g.le) Q (N.mono g.le));exact⟨m,v1,H',W,X,v,Y,Z,q3,g.trans s E q4,q5,q6⟩
section sub
variable {P : Program} {G : Ev} {p len esz ver st : Nat} {l l' : List LV}
def zf5 {t:LTgt}{args args':List LV}{K:LV→Ev→Prop}(h:∀c r,ARs c args r→ARs c args' r)(k:Js P t args' G K):Js P t args G K :=
 ⟨k.1,fun c t1 a d f g=>k.2 c t1 a d f (h c _ g)⟩
end sub
def Q7 {c:Cx}{a:AV}(h:AR c .nilSl a):AR c (.lst [] 0 1) a:=by cases h;exact .lstNil
end Go.Sv
namespace Go.Sv
noncomputable def yk (P:Program)(f:Nat):Option RF :=
 match Y1 P f && !(vd P f) with
 |false=>none
 |true=>match P.funcs[f]? with
  |none=>none
  |some fn=>match fn.body with
   |none=>none
   |some b=>match Nat.ble fn.ntmps Io with
    |false=>none
    |true=>match F8 P fn.ntmps b with
     |none=>none
     |some c=>match O7 P fn.results.toList with
      |none=>none
      |some rs=>some ⟨fn.ntmps,c,rs⟩
def lr {P:Program}{f:Nat}(h:¬z8v P f)(args:List AV)(H:Heap):OL P (.fn f) args H=.no:=by
 unfold OL;split
 ·rename_i g e;cases e;rw[Ab (fun x=>h x.2)]
 ·rfl
section top
variable {P : Program}
def zr0 {f:Nat}{s:LC}{n:Nat}{rs:List RRes}(d:yk P f=some ⟨n,s.r,rs⟩)(w:s.ok=true)(y:∀(a:List AV) (H:Heap),OL P (.fn f) a H=.no){args:List LV}(R:args.length≤n){G:Ev}{K:LV→Ev→Prop}
  (h:W P f n s none (W8 args 0) [] G fun x ρ D G'=>(match x with | .exit _=>False|_=>True)∧Y9 D G' fun r=>I7 ρ r rs fun vs=>K (L6 vs) r):Js P (.fn f) args G K:=by
 unfold yk at d;split at d
 ·cases d
 ·rename_i l;simp only[Ac,Bs] at l;refine⟨l,fun c t1 j I J L=>?_⟩;cases t1 with
  |yield o=>exact J.elim
  |fn g =>
   obtain rfl:f=g:=J;split at d
   ·cases d
   ·rename_i fn z;split at d
    ·cases d
    ·rename_i b S;split at d
     ·cases d
     ·rename_i p;split at d
      ·cases d
      ·rename_i rc A;split at d
       ·cases d
       ·rename_i T B;cases d;obtain⟨m,x,E',U,c',ρ',D',G',V,M,X,Y,Z,q6,q7⟩:=h b c _ [] none A w I (Gm.start L) .nil trivial;obtain⟨C,r,N,O,Q,r4⟩:=zmf Z M q7;obtain⟨vs,as,s1,s2,s3⟩:=xi O (Y.mono Q.le) B r4;have q:AR C (L6 vs) (cd as):=by
         cases s2 with
         |nil=>exact .tup .nil
         |cons e es =>
          cases es with
          |nil=>exact e
          |cons e2 E=>exact .tup (.cons e (.cons e2 E))
        refine⟨m+1,cd as,C.H,?_,C,L6 vs,r,rfl,O,.trans I M X Q,q,s3⟩;unfold Kq;dsimp only;rw[y];dsimp only;unfold j2;rw[z];dsimp only;rw[S];dsimp only;rw[Ai (As p)];dsimp only;have F:Nat.ble j.length fn.ntmps=true:=Ak (by rw[←L.length];exact R);rw[F];dsimp only;rw[V];dsimp only;cases x with
        |exit id=>exact q6.elim
        |normal =>
         dsimp only;rw[N];dsimp only;rw[s1];rcases as with _|⟨a,_|⟨a2,as⟩⟩<;>rfl
        |ret =>
         dsimp only;rw[N];dsimp only;rw[s1];rcases as with _|⟨a,_|⟨a2,as⟩⟩<;>rfl
def ztt {f:Nat}{s:LC}{n:Nat}{rs:List RRes}(g:yk P f=some ⟨n,s.r,rs⟩)(a:s.ok=true)(j:ua P f=true)(l:xj P (.fn f)){G:Ev}{K:LV→Ev→Prop}(k:K (.bool true) G)
  (h:wp P f n none s [] [] G (eu rs K)):Js P (.fn f) [] G K:=by
 by_cases d:z8v P f
 ·exact zqw l j d k
 ·exact zr0 g a (lr d) (Dd _) ((Mn s h).post fun x ρ D G' k=>by
   cases x with
   |normal=>exact⟨trivial,k⟩
   |exit i=>exact k.elim
   |ret=>exact⟨trivial,k⟩)
end top
end Go.Sv
namespace Go.Sv
def zrh {l:List LV}(h:∀v∈l,v.dat=true):dats l=true:=by
 induction l with
 |nil=>rfl
 |cons v l a=>rw[dats,h v (B5 ..),a fun w hw=>h w (Az _ hw)];rfl
def zh0 {l:List LV}(h:dats l=true):∀v∈l,v.dat=true:=by
 induction l with
 |nil=>intro v hv;cases hv
 |cons w l a =>
  rw[dats,Ac] at h;intro v hv;rcases An.1 hv with rfl|hv
  ·exact h.1
  ·exact a h.2 v hv
def zf6 {l:List LV}(n:Nat)(h:dats l=true):dats (l.take n)=true:=zrh fun v hv=>zh0 h v (List.mem_of_mem_take hv)
def zv6 {l:List LV}(n:Nat)(h:dats l=true):dats (l.drop n)=true:=zrh fun v hv=>zh0 h v (List.mem_of_mem_drop hv)
def Yv {a b:List LV}(h:dats a=true)(k:dats b=true):dats (a++b)=true:=zrh fun v hv=>(Ay.1 hv).elim (zh0 h v) (zh0 k v)
def ztx {l r:List LV}{i:Nat}(h:dats l=true)(k:dats r=true):dats (Gp l i r)=true:=by
 unfold Gp;exact Yv (Yv (zf6 _ h) k) (zv6 _ h)
def E6 {G x:Ev}{i:Nat}(h:i<G.length):(G++x)[i]?=G[i]?:=Aq h
def Gu (b:Nat)(G:Ev)(v:LV)(esz n:Nat)(l:List LV):Prop :=
 (v=.nilSl∧n=0∧l=[])∨∃(p k:Nat) (R:List LV) (m st:Nat),b≤p∧G[p]?=some (.dyn R m esz k st)∧R.length=m*esz∧n≤m∧l=R.take (n*esz)∧dats R=true∧((v=.dy p k∧n=m)∨v=.vw p k 0 n)
section std
variable {b : Nat} {G G' : Ev} {v : LV} {esz n : Nat} {l x : List LV}
def Gu.nil:Gu b G .nilSl esz 0 []:=.inl ⟨rfl,rfl,rfl⟩
def Gu.stk (h:Gu b G v esz n l):Zu b G v esz n l:=by
 rcases h with h|⟨p,k,R,m,st,h1,h2,h3,h4,h5,_,h6⟩
 ·exact .inl h
 ·exact .inr ⟨p,k,R,m,st,h1,h2,h3,h4,h5,h6⟩
def Gu.dy {p k st:Nat}(hb:b≤p)(hp:G[p]?=some (.dyn l n esz k st))(hl:l.length=n*esz)(hd:dats l=true):Gu b G (.dy p k) esz n l :=
 .inr ⟨p,k,l,n,st,hb,hp,hl,Am _,by rw[Ax (by omega)],hd,.inl ⟨rfl,rfl⟩⟩
def Gu.frame (h:Gu b G v esz n l)(hf:∀q,b≤q→q<G.length→G'[q]?=G[q]?):Gu b G' v esz n l:=by
 rcases h with h|⟨p,k,R,m,st,h1,h2,h3⟩
 ·exact .inl h
 ·exact .inr ⟨p,k,R,m,st,h1,by rw[hf p h1 (Aa.1 h2).1];exact h2,h3⟩
def Gu.set_lt (h:Gu b G v esz n l){q:Nat}{ob:LObj}(hq:q<b):Gu b (G.set q ob) v esz n l :=
 h.frame fun r hr _=>Ad (by omega)
def Gu.push_end (h:Gu b G v esz n l){ob:List LObj}:Gu b (G++ob) v esz n l :=
 h.frame fun _ _ hr=>Aq hr
def Gu.push (h:Gu b G v esz n l)(hz:0<esz)(hb:b≤G.length)(hn:n≤1000000000)(hx:x.length=esz)(aa:dats x=true){K:LV→Ev→Prop}
  (k:∀(v':LV) (G':Ev),Gu b G' v' esz (n+1) (l++x)→(∀q,q<b→G'[q]?=G[q]?)→G.length≤G'.length→(∀(q:Nat) (ob:LObj),(∀R m k st,ob≠LObj.dyn R m esz k st)→G[q]?=some ob→G'[q]?=some ob)→K v' G'):Hz G esz v 1 x K:=by
 have af:=h.stk.length;have fresh:∀l',l'=l++x→dats l'=true→K (.dy G.length 0) (G++[.dyn l' (n+1) esz 0 0]):=by
  rintro l' rfl hd;refine k _ _ (.dy hb (st:=0) Aw (by rw[Aj,af,hx,Bb];omega) hd) (fun q hq=>Aq (by omega)) (by simp) (fun q ob _ e=>by rw[Aq (Aa.1 e).1];exact e)
 rcases h with ⟨rfl,rfl,rfl⟩|⟨p,ag,R,m,st,h0,h1,h2,h3,rfl,hd,⟨rfl,rfl⟩|rfl⟩
 ·rw[appL_nil];exact fresh _ rfl aa
 ·have hp:p<G.length:=(Aa.1 h1).1;rw[Ax (by omega)] at k;rw[appL_dy,h1];refine⟨rfl,⟨rfl,hz⟩,hn,k _ _ (.dy h0 (Ag hp) (by rw[Aj,h2,hx,Bb];omega) (Yv hd aa)) (fun q hq=>Ad (by omega)) (by simp) (fun q ob ho e=>?_)⟩;rw[Ad (fun q'=>by rw[←q',h1] at e;exact ho _ _ _ _ (Option.some.inj e).symm)];exact e
 ·have hp:p<G.length:=(Aa.1 h1).1;have hm:=At esz h3;have ha:(n+1)*esz=n*esz+esz:=by rw[Bb];omega
  rw[appL_vw,h1];refine⟨rfl,⟨rfl,rfl,by omega⟩,hn,?_⟩;by_cases hf:(n+1)*esz≤R.length
  ·rw[Ai hf];have ad:n+1≤m:=by
    rw[h2] at hf;exact En hf hz
   refine⟨k _ _ (.inr ⟨p,ag,_,m,_,h0,Ag hp,?_,ad,?_,ztx hd aa,.inr rfl⟩) (fun q hq=>Ad (by omega)) (by simp) (fun q ob ho e=>?_),fresh _ rfl (Yv (zf6 _ hd) aa)⟩
   ·unfold Gp;simp;omega
   ·unfold Gp;have e1:(R.take (n*esz)++x).length=(n+1)*esz:=by rw[Aj,af,hx,ha]
    rw[Da e1]
   ·rw[Ad (fun q'=>by rw[←q',h1] at e;exact ho _ _ _ _ (Option.some.inj e).symm)];exact e
  ·rw[Ab hf];have ad:n=m:=by
    rw[h2] at hf;have:¬n+1≤m:=fun q=>hf (At _ q)
    omega
   subst ad;have ht:R.take (n*esz)=R:=Ax (by omega);rw[ht] at k fresh;refine⟨rfl,hz,k _ _ (.dy h0 (Ag hp) (by rw[Aj,h2,hx,Bb];omega) (Yv hd aa)) (fun q hq=>Ad (by omega)) (by simp) (fun q ob ho e=>?_),fresh _ rfl (Yv hd aa)⟩;rw[Ad (fun q'=>by rw[←q',h1] at e;exact ho _ _ _ _ (Option.some.inj e).symm)];exact e
def Gu.cut (h:Gu b G v esz n l){m:Nat}(hm:m≤n){lo:(Nat→Prop)→Prop}{hi:Nat→(Nat→Prop)→Prop}(aa:∀K':Nat→Prop,K' 0→lo K')(ad:∀(d:Nat) (K':Nat→Prop),K' m→hi d K'){K:LV→Prop}
  (k:∀v',Gu b G v' esz m (l.take (m*esz))→K v'):X1 G esz v lo hi K:=by
 rcases h with ⟨rfl,rfl,rfl⟩|⟨p,af,R,m',st,h0,h1,h2,h3,rfl,hd,⟨rfl,rfl⟩|rfl⟩
 ·have:m=0:=by omega
  subst this;rw[slL_nil];exact aa _ (ad _ _ ⟨rfl,rfl,k _ (.inl ⟨rfl,rfl,by simp⟩)⟩)
 ·rw[slL_dy,h1];refine⟨rfl,rfl,aa _ (ad _ _ ⟨by omega,hm,k _ (.inr ⟨p,af,R,n,st,h0,h1,h2,hm,?_,hd,.inr rfl⟩)⟩)⟩;rw[Ep,Cv (At _ hm)]
 ·rw[slL_vw,h1];refine⟨rfl,rfl,aa _ (ad _ _ ⟨by omega,hm,k _ (.inr ⟨p,af,R,m',st,h0,h1,h2,by omega,?_,hd,.inr rfl⟩)⟩)⟩;rw[Ep,Cv (At _ hm)]
def Gu.bor (h:Gu b G v esz n l):Go.Sv.bor G v (.lst l n esz):=by
 rcases h with ⟨rfl,rfl,rfl⟩|⟨p,k,R,m,st,h1,h2,h3,h4,rfl,hd,⟨rfl,rfl⟩|rfl⟩
 ·exact .inr ⟨_,rfl⟩
 ·exact⟨R,_,_,_,by rw[Ax (by omega)],h2,hd⟩
 ·have:=At esz h4;exact⟨R,_,_,_,by rw[Dc,C7],h2,by omega,hd⟩
def Gu.lenL (h:Gu b G v esz n l){K:Nat→Prop}(k:K n):Go.Sv.lenL G v K:=h.stk.lenL k
def Gu.cells (h:Gu b G v esz n l):v.cells=some [v]:=h.stk.cells
def Gu.at1 (h:Gu b G v 1 n l){i:Int}(h0:0≤i)(hi:i<n){K:LV→Prop}(k:∀a,(∀K':LV→Prop,Hj l i.toNat K'→Qp G a K')→K a):Th G 1 v i K:=by
 refine h.stk.ix h0 hi fun p aa R m st h1 h2 h3 h4=>k _ fun K' hk=>?_
 rw[read1_dptr,h2];obtain⟨w,hw,hk⟩:=hk;refine⟨rfl,w,?_,hk⟩;rw[De] at h3 ⊢;rw[h3 _ (by omega)];exact hw
def Ri:LV→Option Nat
 |.dy p _=>some p
 |.vw p _ _ _=>some p
 |_=>none
def Gu.frame2 (h:Gu b G v esz n l)(hf:∀q,Ri v=some q→G'[q]?=G[q]?):Gu b G' v esz n l:=by
 rcases h with h|⟨p,k,R,m,st,h1,h2,h3,h4,h5,h6,h7⟩
 ·exact .inl h
 ·refine .inr ⟨p,k,R,m,st,h1,?_,h3,h4,h5,h6,h7⟩;rw[hf p (by rcases h7 with ⟨rfl,_⟩|rfl<;>rfl)];exact h2
def Gu.row (h:Gu b G v esz n l){q:Nat}(hq:Ri v=some q):b≤q∧q<G.length∧∃R m k st,G[q]?=some (.dyn R m esz k st):=by
 rcases h with ⟨rfl,_⟩|⟨p,k,R,m,st,h1,h2,h3,h4,h5,h6,⟨rfl,_⟩|rfl⟩
 ·cases hq
 ·cases hq;exact⟨h1,(Aa.1 h2).1,_,_,_,_,h2⟩
 ·cases hq;exact⟨h1,(Aa.1 h2).1,_,_,_,_,h2⟩
def Gu.cut2 (h:Gu b G v esz n l){m:Nat}(hm:m≤n){lo:(Nat→Prop)→Prop}{hi:Nat→(Nat→Prop)→Prop}(aa:∀K':Nat→Prop,K' 0→lo K')(ad:∀(d:Nat) (K':Nat→Prop),K' m→hi d K'){K:LV→Prop}
  (k:∀v',Gu b G v' esz m (l.take (m*esz))→Ri v'=Ri v→K v'):X1 G esz v lo hi K:=by
 rcases h with ⟨rfl,rfl,rfl⟩|⟨p,af,R,m',st,h0,h1,h2,h3,rfl,hd,⟨rfl,rfl⟩|rfl⟩
 ·have:m=0:=by omega
  subst this;rw[slL_nil];exact aa _ (ad _ _ ⟨rfl,rfl,k _ (.inl ⟨rfl,rfl,by simp⟩) rfl⟩)
 ·rw[slL_dy,h1];refine⟨rfl,rfl,aa _ (ad _ _ ⟨by omega,hm,k _ (.inr ⟨p,af,R,n,st,h0,h1,h2,hm,?_,hd,.inr rfl⟩) rfl⟩)⟩;rw[Ep,Cv (At _ hm)]
 ·rw[slL_vw,h1];refine⟨rfl,rfl,aa _ (ad _ _ ⟨by omega,hm,k _ (.inr ⟨p,af,R,m',st,h0,h1,h2,by omega,?_,hd,.inr rfl⟩) rfl⟩)⟩;rw[Ep,Cv (At _ hm)]
def Gu.push2 (h:Gu b G v esz n l)(hz:0<esz)(hb:b≤G.length)(hn:n≤1000000000)(hx:x.length=esz)(aa:dats x=true){K:LV→Ev→Prop}
  (k:∀(v':LV) (G':Ev),Gu b G' v' esz (n+1) (l++x)→(∀q,q<G.length→Ri v≠some q→G'[q]?=G[q]?)→G.length≤G'.length→(Ri v'=Ri v∨Ri v'=some G.length)→K v' G'):Hz G esz v 1 x K:=by
 have af:=h.stk.length;have fresh:∀l',l'=l++x→dats l'=true→K (.dy G.length 0) (G++[.dyn l' (n+1) esz 0 0]):=by
  rintro l' rfl hd;refine k _ _ (.dy hb (st:=0) Aw (by rw[Aj,af,hx,Bb];omega) hd) (fun q hq _=>Aq hq) (by simp) (.inr rfl)
 rcases h with ⟨rfl,rfl,rfl⟩|⟨p,ag,R,m,st,h0,h1,h2,h3,rfl,hd,⟨rfl,rfl⟩|rfl⟩
 ·rw[appL_nil];exact fresh _ rfl aa
 ·have hp:p<G.length:=(Aa.1 h1).1;rw[Ax (by omega)] at k;rw[appL_dy,h1];refine⟨rfl,⟨rfl,hz⟩,hn,k _ _ (.dy h0 (Ag hp) (by rw[Aj,h2,hx,Bb];omega) (Yv hd aa)) (fun q _ hq=>Ad (fun e=>hq (by rw[←e];rfl))) (by simp) (.inl rfl)⟩
 ·have hp:p<G.length:=(Aa.1 h1).1;have hm:=At esz h3;have ha:(n+1)*esz=n*esz+esz:=by rw[Bb];omega
  rw[appL_vw,h1];refine⟨rfl,⟨rfl,rfl,by omega⟩,hn,?_⟩;by_cases hf:(n+1)*esz≤R.length
  ·rw[Ai hf];have ad:n+1≤m:=by
    rw[h2] at hf;exact En hf hz
   refine⟨k _ _ (.inr ⟨p,ag,_,m,_,h0,Ag hp,?_,ad,?_,ztx hd aa,.inr rfl⟩) (fun q _ hq=>Ad (fun e=>hq (by rw[←e];rfl))) (by simp) (.inl rfl),fresh _ rfl (Yv (zf6 _ hd) aa)⟩
   ·unfold Gp;simp;omega
   ·unfold Gp;have e1:(R.take (n*esz)++x).length=(n+1)*esz:=by rw[Aj,af,hx,ha]
    rw[Da e1]
  ·rw[Ab hf];have ad:n=m:=by
    rw[h2] at hf;have:¬n+1≤m:=fun q=>hf (At _ q)
    omega
   subst ad;have ht:R.take (n*esz)=R:=Ax (by omega);rw[ht] at k fresh;refine⟨rfl,hz,k _ _ (.dy h0 (Ag hp) (by rw[Aj,h2,hx,Bb];omega) (Yv hd aa)) (fun q _ hq=>Ad (fun e=>hq (by rw[←e];rfl))) (by simp) (.inl rfl),fresh _ rfl (Yv hd aa)⟩
end std
end Go.Sv
namespace Go.Sv
section deep
variable {P : Program}
def La.mkS {f:Nat}{args:List LV}{v0:LV}(hd:v0.dat=true)(h:Js P (.fn f) args [] fun v G=>∀(c:Cx) (a:AV),HSim c G→AR c v a→AR ⟨[],fun o=>c.Fz o∨Hw c G o,c.H⟩ v0 a):La P f args v0:=by
 refine⟨h.1,hd,fun Fz H aa af ha=>?_⟩;obtain⟨m,v1,H',q1,c1,v,G,rfl,q3,q4,q5,q6⟩:=h.2 ⟨[],Fz,H⟩ (.fn f) aa (.empty af) rfl ha;have ad:∀o,¬Hw ⟨[],Fz,H⟩ [] o:=fun o ⟨p,_,_,_,e,_⟩=>by simp at e
 refine⟨m,v1,_,c1.H,q1,q4.nx,fun o ho=>.inl (q4.le.fz o ho).1,fun o ho=>⟨ho.elim (q3.fz o) (q3.lt o),?_⟩,fun o ho=>q4.frame o ho (ad o),q6 c1 v1 q3 q5⟩;rcases ho with ho|ho
 ·rcases q4.fznew o ho with h|h|h
  ·exact .inl h
  ·exact absurd h (ad o)
  ·exact .inr h
 ·rcases q4.new o ho with h|h
  ·exact absurd h (ad o)
  ·exact .inr h
def tr {c:Cx}{G:Ev}(s:HSim c G){p k len esz st:Nat}{l r:List LV}{a:AV}(w:G[p]?=some (.dyn l len esz k st))(j:bors G l r)(h:AR c (.dy p k) a):AR ⟨[],fun o=>c.Fz o∨Hw c G o,c.H⟩ (.lst r len esz) a:=by
 cases h with
 | @dy _ _ k' H _ e hk B _ =>
  obtain⟨I,x,f⟩:=s.obj p _ _ _ w e;have g:=B (by omega);rcases f with ⟨f,m⟩|⟨o,v,room,t,y,l',f,m,C,D,z,E,J⟩
  ·subst m;have F:l=[]:=A0 (by simpa using x);subst F;simp only[bors] at j;subst j;rw[g,f];exact .lstNil
  ·have q:l'.length=len*esz:=by rw[←z.length];exact x
   have A:=Pj (i:=0) (n:=len*esz) m D C (by omega);rw[C7,Ax (by omega)] at A;rw[g,f];have d:=bors_ok s l r l' j z;refine .lst (.inr ⟨p,_,_,_,w,rfl,e,by rw[f];rfl⟩) (fun r e=>(E r e).2) (by rw[d.length,q]) A d
def cb {c:Cx}{G:Ev}(f:HSim c G){p k len esz st:Nat}{l r:List LV}{v d:LV}{x:LV}{a:AV}(g:G[p]?=some (.dyn l len esz k st))(j:bors G l r)(hv:bor G v d)(m:bor G x x)(h:AR c (.tup [.dy p k,v,x]) a):AR ⟨[],fun o=>c.Fz o∨Hw c G o,c.H⟩ (.tup [.lst r len esz,d,x]) a:=by
 cases h with
 |tup h=>cases h with
  |cons e es=>cases es with
   |cons q es=>cases es with
    |cons s es =>
     cases es;exact .tup (.cons (tr f g j e) (.cons (bor_ok f v d _ hv q) (.cons (bor_ok f x x _ m s) .nil)))
end deep
end Go.Sv
namespace Go.Sv
def H0 (b:Nat)(G:Ev)(v:LV)(esz n:Nat)(l:List LV):Prop :=
 dats l=true∧l.length=n*esz∧((v=.nilSl∧n=0∧l=[])∨∃(p k st:Nat),b≤p∧v=.dy p k∧G[p]?=some (.dyn l n esz k st))
section dys
variable {b : Nat} {G G' : Ev} {v : LV} {esz n : Nat} {l x : List LV}
def H0.nil:H0 b G .nilSl esz 0 []:=⟨rfl,by simp,.inl ⟨rfl,rfl,rfl⟩⟩
def H0.frame (h:H0 b G v esz n l)(hf:∀q,b≤q→q<G.length→G'[q]?=G[q]?):H0 b G' v esz n l:=by
 obtain⟨h1,h2,h|⟨p,k,st,a,e,c⟩⟩:=h
 ·exact⟨h1,h2,.inl h⟩
 ·exact⟨h1,h2,.inr ⟨p,k,st,a,e,by rw[hf p a (Aa.1 c).1];exact c⟩⟩
def H0.set_lt (h:H0 b G v esz n l){q:Nat}{ob:LObj}(hq:q<b):H0 b (G.set q ob) v esz n l :=
 h.frame fun r hr _=>Ad (by omega)
def H0.push_end (h:H0 b G v esz n l){ob:List LObj}:H0 b (G++ob) v esz n l :=
 h.frame fun _ _ hr=>Aq hr
def H0.cells (h:H0 b G v esz n l):v.cells=some [v]:=by
 obtain⟨_,_,⟨rfl,_⟩|⟨p,k,st,_,rfl,_⟩⟩:=h<;>rfl
def H0.push {c:Nat}(h:H0 b G v esz n l)(hz:0<esz)(hb:b≤G.length)(hn:n≤1000000000)(hx:x.length=c*esz)(aa:dats x=true){K:LV→Ev→Prop}
  (k:∀(v':LV) (G':Ev),H0 b G' v' esz (n+c) (l++x)→(∀q,q<b→G'[q]?=G[q]?)→G.length≤G'.length→K v' G'):Hz G esz v c x K:=by
 obtain⟨h1,h2,h⟩:=h;have hl:(l++x).length=(n+c)*esz:=by rw[Aj,h2,hx,Bb]
 rcases h with ⟨rfl,rfl,rfl⟩|⟨p,ad,st,a,rfl,e⟩
 ·rw[appL_nil];refine k _ _ ⟨by simpa using aa,hl,.inr ⟨G.length,0,0,hb,rfl,?_⟩⟩ (fun q hq=>Aq (by omega)) (by simp);rw[Aw];simp
 ·have hp:=(Aa.1 e).1;rw[appL_dy,e];exact⟨rfl,⟨rfl,hz⟩,hn,k _ _ ⟨dats_app h1 aa,hl,.inr ⟨p,ad+1,st+1,a,rfl,Ag hp⟩⟩ (fun q hq=>Ad (by omega)) (by simp)⟩
def H0.bor (h:H0 b G v esz n l):Go.Sv.bor G v (.lst l n esz):=by
 obtain⟨h1,h2,⟨rfl,rfl,rfl⟩|⟨p,k,st,a,rfl,e⟩⟩:=h
 ·exact .inr ⟨_,rfl⟩
 ·exact⟨l,n,esz,st,rfl,e,h1⟩
end dys
end Go.Sv
namespace Go.Sv
section dys
variable {b : Nat} {G G' : Ev} {v : LV} {esz n : Nat} {l x : List LV}
def H0.push2 {c:Nat}(h:H0 b G v esz n l)(hz:0<esz)(hb:b≤G.length)(hn:n≤1000000000)(hx:x.length=c*esz)(aa:dats x=true){K:LV→Ev→Prop}
  (k:∀(v':LV) (G':Ev),H0 b G' v' esz (n+c) (l++x)→(∀q,q<G.length→(∀j,v≠.dy q j)→G'[q]?=G[q]?)→G.length≤G'.length→(∀q j,v'=.dy q j→q=G.length∨∃j',v=.dy q j')→(∀q j,v'=.dy q j→q<G'.length)→K v' G'):Hz G esz v c x K:=by
 obtain⟨h1,h2,h⟩:=h;have hl:(l++x).length=(n+c)*esz:=by rw[Aj,h2,hx,Bb]
 rcases h with ⟨rfl,rfl,rfl⟩|⟨p,ad,st,a,rfl,e⟩
 ·rw[appL_nil];refine k _ _ ⟨by simpa using aa,hl,.inr ⟨G.length,0,0,hb,rfl,?_⟩⟩ (fun q hq _=>Aq (by omega)) (by simp) (fun q j e=>by cases e;exact .inl rfl) (fun q j e=>by cases e;simp);rw[Aw];simp
 ·have hp:=(Aa.1 e).1;rw[appL_dy,e];exact⟨rfl,⟨rfl,hz⟩,hn,k _ _ ⟨dats_app h1 aa,hl,.inr ⟨p,ad+1,st+1,a,rfl,Ag hp⟩⟩ (fun q hq hv=>Ad (fun q'=>hv ad (by rw[q']))) (by simp) (fun q j e=>by cases e;exact .inr ⟨_,rfl⟩) (fun q j e=>by cases e;simpa using hp)⟩
def H0.keep (h:H0 b G v esz n l)(hf:∀q j,v=.dy q j→G'[q]?=G[q]?):H0 b G' v esz n l:=by
 obtain⟨h1,h2,h|⟨p,k,st,a,e,c⟩⟩:=h
 ·exact⟨h1,h2,.inl h⟩
 ·exact⟨h1,h2,.inr ⟨p,k,st,a,e,by rw[hf p k e];exact c⟩⟩
def H0.lt (h:H0 b G v esz n l){q j:Nat}(e:v=.dy q j):b≤q∧q<G.length:=by
 obtain⟨_,_,⟨h,_⟩|⟨p,k,st,a,e2,c⟩⟩:=h
 ·rw[h] at e;cases e
 ·rw[e2] at e;cases e;exact⟨a,(Aa.1 c).1⟩
end dys
end Go.Sv
namespace Go.Sv
def O9 {n:Nat}(h:n<18446744073709551616):(iU (n:Int)).toNat=n:=by
 rw[Uj,UInt64.ofInt,By];omega
def val:List UInt64→Nat
 |[]=>0
 |x::l=>x.toNat+18446744073709551616*val l
def zc3 (n:Nat):2^(64*(n+1))=18446744073709551616*2^(64*n):=by
 rw[Nat.mul_add,D4,Bz]
def val_append:∀a b:List UInt64,val (a++b)=val a+2^(64*a.length)*val b
 |[],b=>by simp[val]
 |x::a,b=>by
  rw[Bi,val,val,val_append a b,Ar,zc3,Nat.mul_add,Dq];omega
def val_lt:∀a:List UInt64,val a<2^(64*a.length)
 |[]=>by simp[val]
 |x::a=>by
  have d:=x.toNat_lt;have f:=val_lt a;rw[val,Ar,zc3];omega
def zkt (x:UInt64):val [x]=x.toNat:=by simp[val]
def V2 (a:List UInt64)(x:UInt64):val (a++[x])=val a+2^(64*a.length)*x.toNat:=by
 rw[val_append,zkt]
def val_rep0:∀n,val (List.replicate n 0)=0
 |0=>rfl
 |n+1=>by rw[Db,val,val_rep0 n];rfl
def zcl {a:List UInt64}{n:Nat}(h:n<a.length):a.take (n+1)=a.take n++[a.getD n 0]:=by
 rw[Cj h];simp[h]
def zed {a:List UInt64}{n:Nat}(h:n<a.length):val (a.take (n+1))=val (a.take n)+2^(64*n)*(a.getD n 0).toNat:=by
 rw[zcl h,V2,Cr,Cv (by omega)]
def O0:Nat→Nat→List UInt64
 |0,_=>[]
 |f+1,n=>if n=0 then [] else UInt64.ofNat n::O0 f (n/18446744073709551616)
def Py (n:Nat):List UInt64:=O0 n n
def toLf_more:∀(f g n:Nat),n≤f→n≤g→O0 f n=O0 g n
 |0,0,_,_,_=>rfl
 |0,g+1,n,h,_=>by
  have:n=0:=by omega
  subst this;simp[O0]
 |f+1,0,n,_,h=>by
  have:n=0:=by omega
  subst this;simp[O0]
 |f+1,g+1,n,d,j=>by
  simp only[O0];by_cases a:n=0
  ·simp[a]
  ·rw[Ab a,Ab a,toLf_more f g (n/18446744073709551616) (by omega) (by omega)]
def toL_zero:Py 0=[]:=rfl
def zr7 {n:Nat}(h:n≠0):Py n=UInt64.ofNat n::Py (n/18446744073709551616):=by
 unfold Py;cases n with
 |zero=>exact absurd rfl h
 |succ n =>
  rw[O0,Ab h,toLf_more n ((n+1)/18446744073709551616) _ (by omega) (Am _)]
def Zl (n:Nat):val (Py n)=n:=by
 induction n using Nat.strongRecOn with
 |_ n a =>
  by_cases h:n=0
  ·subst h;rfl
  ·rw[zr7 h,val,a _ (by omega),By];omega
def y9 (l:List UInt64):Prop:=l=[]∨l.getLast?.getD 0≠0
def zs8 {x:UInt64}{l:List UInt64}(h:y9 (x::l)):y9 l:=by
 cases l with
 |nil=>exact .inl rfl
 |cons y l =>
  rcases h with h|h
  ·cases h
  ·exact .inr (by simpa [List.getLast?_cons_cons] using h)
def val_pos_of_Trm:∀{l:List UInt64},l≠[]→y9 l→val l≠0
 |[],h,_=>absurd rfl h
 |[x],_,h=>by
  rcases h with h|h
  ·cases h
  ·simp at h;rw[zkt];intro e;exact h (Bn.1 e)
 |x::y::l,_,h=>by
  have:=val_pos_of_Trm (l:=y::l) (by simp) (zs8 h);rw[val];omega
def toL_val:∀{l:List UInt64},y9 l→Py (val l)=l
 |[],_=>rfl
 |x::l,h=>by
  have a:=val_pos_of_Trm (by simp) h;rw[zr7 a];have g:=x.toNat_lt;have d:UInt64.ofNat (val (x::l))=x:=by
   apply Bn.1;rw[By,val];omega
  have f:val (x::l)/18446744073709551616=val l:=by rw[val];omega
  rw[d,f,toL_val (zs8 h)]
def Wy {l:List UInt64}{x:UInt64}(h:x≠0):y9 (l++[x]):=.inr (by simpa using h)
def ze2 {n k:Nat}(h:n<2^(64*k)):(Py n).length≤k:=by
 induction k generalizing n with
 | zero => have : n = 0 := by simpa using h
           subst this;simp[toL_zero]
 |succ k d =>
  by_cases a:n=0
  ·subst a;simp[toL_zero]
  ·rw[zr7 a,Ar];have:=d (n:=n/18446744073709551616) (by rw[zc3] at h;exact Nat.div_lt_of_lt_mul h);omega
def zjs (a:List UInt64):(Py (val a)).length≤a.length:=ze2 (val_lt a)
def val_inj_length:∀{a b:List UInt64},a.length=b.length→val a=val b→a=b
 |[],[],_,_=>rfl
 |[],_::_,h,_=>by simp at h
 |_::_,[],h,_=>by simp at h
 |x::a,y::b,h,e=>by
  have g:=x.toNat_lt;have j:=y.toNat_lt;rw[val,val] at e;have d:x.toNat=y.toNat:=by omega
  have f:val a=val b:=by omega
  rw[Bn.1 d,val_inj_length (by simpa using h) f]
def RU (l:List UInt64):LObj:=.dyn (l.map .u) l.length 1 0 0
def jq (G:Ev)(v:LV)(l:List UInt64):Prop:=(v=.nilSl∧l=[])∨∃p k st,v=.dy p k∧G[p]?=some (.dyn (l.map .u) l.length 1 k st)
def jq.sel {G:Ev}{v:LV}{l:List UInt64}(h:jq G v l):Rn G [v] [RU l]:=by
 rcases h with ⟨rfl,rfl⟩|⟨p,k,st,rfl,hg⟩
 ·simp[RU]
 ·simp[RU,hg]
def j9 {l:List UInt64}:∀(j:Nat) (ob:LObj),[RU l][j]?=some ob→∃c len esz,ob=.dyn c len esz 0 0∧c.all LV.scal=true:=by
 intro j ob e;cases j with
 |zero=>simp at e;subst e;exact⟨_,_,_,rfl,by simp⟩
 |succ j=>simp at e
def Hg.row {P:Program}{f:Nat}{args:List LV}{l:List UInt64}(h:Js P (.fn f) args [] fun v G=>jq G v l):Hg P f args (.dy 0 0) [RU l] :=
 Hg.mk rfl (h.mono fun v G e=>⟨[v],by simp,rfl,e.sel⟩) j9
def Hg.rowE {P:Program}{f:Nat}{args:List LV}{l:List UInt64}{e:Int}(h:Js P (.fn f) args [] fun v G=>∃w,v=.tup [w,.i e]∧jq G w l):Hg P f args (.tup [.dy 0 0,.i e]) [RU l] :=
 Hg.mk rfl (h.mono fun v G ⟨w,e1,e2⟩=>⟨[w],by simp[e1],rfl,e2.sel⟩) j9
def Iy (a b:UInt64):Bool→UInt64×Bool
 |false=>(a+b,decide (a+b<a))
 |true=>(a+b+1,decide (a+b<a) || decide (a+b+1=0))
def Gx (a b:UInt64):Bool→UInt64×Bool
 |false=>(a - b,decide (a<b))
 |true=>(a - b - 1,decide (a<b) || decide (a - b=0))
def zc9 (x:UInt64):x=0↔x.toNat=0:=⟨fun h=>by rw[h];rfl,fun h=>Bn.1 (by rw[h];rfl)⟩
def znb (b:Bool):b.toNat=if b=true then 1 else 0:=by cases b<;>rfl
def zli (a b:UInt64)(c:Bool):(Iy a b c).1.toNat+18446744073709551616*(Iy a b c).2.toNat=a.toNat+b.toNat+c.toNat:=by
 have d:=a.toNat_lt;have f:=b.toNat_lt;cases c with
 |false =>
  simp only[Iy,znb,Ao,Cl,Bt];split<;>simp<;>omega
 |true =>
  simp only[Iy,znb,Bm,Ao,Cl,zc9,Bt,UInt64.toNat_one];split<;>simp<;>omega
def zo (a b:UInt64)(c:Bool):(Gx a b c).1.toNat+b.toNat+c.toNat=a.toNat+18446744073709551616*(Gx a b c).2.toNat:=by
 have f:=a.toNat_lt;have g:=b.toNat_lt;cases c with
 |false =>
  have e:(Gx a b false).2=decide (a.toNat<b.toNat):=by simp[Gx,Cl]
  rw[e];simp only[Gx,Dv];by_cases h:a.toNat<b.toNat<;>simp[h]<;>omega
 |true =>
  have e:(Gx a b true).2=decide (a.toNat≤b.toNat):=by
   simp only[Gx,Cl,zc9,Dv];by_cases h:a.toNat≤b.toNat
   ·by_cases d:a.toNat<b.toNat
    ·simp[h,d]
    ·have:a.toNat=b.toNat:=by omega
     simp[this];omega
   ·simp[h];omega
  rw[e];simp only[Gx,Dv,UInt64.toNat_one];by_cases h:a.toNat≤b.toNat<;>simp[h]<;>omega
def zy1 {P:Program}{f:Nat}{args a:List LV}{l:List UInt64}{G:Ev}{K:LV→Ev→Prop}(d:Hg P f a (.dy 0 0) [RU l])(g:bors G args a)(k:K (.dy G.length 0) (G++[RU l])):Js P (.fn f) args G K :=
 Za d g (by simpa using k)
def zg2 {a:List UInt64}{n:Nat}(h:a.length≤n):val (a.take n)=val a:=by rw[Ax h]
def ze0 (a:List UInt64)(n:Nat):val (a.take (n+1))=val (a.take n)+2^(64*n)*(a.getD n 0).toNat:=by
 by_cases h:n<a.length
 ·exact zed h
 ·rw[Ax (by omega),Ax (by omega)];have:a.getD n 0=0:=by simp;rw[Dh (by omega)];rfl
  rw[this];simp
def val_getD:∀{a b:List UInt64},val a=val b→∀i,a.getD i 0=b.getD i 0
 |[],[],_,_=>rfl
 |[],y::b,h,i=>by
  simp only[val] at h;have f:y=0:=(zc9 y).2 (by omega);have g:val []=val b:=by simp only[val];omega
  have d:=val_getD g;cases i with
  |zero=>simp[f]
  |succ i=>simpa using d i
 |x::a,[],h,i=>by
  simp only[val] at h;have j:x=0:=(zc9 x).2 (by omega);have l:val a=val []:=by simp only[val];omega
  have d:=val_getD l;cases i with
  |zero=>simp[j]
  |succ i=>simpa using d i
 |x::a,y::b,h,i=>by
  simp only[val] at h;have m:=x.toNat_lt;have o:=y.toNat_lt;have e:x.toNat=y.toNat:=by omega
  have d:=val_getD (a:=a) (b:=b) (by omega);cases i with
  |zero=>simpa using Bn.1 e
  |succ i=>simpa using d i
def opened:(∀a b,M7 a b=a+b)∧(∀a b,Sg a b=a - b)∧(∀a b,K5 a b=a*b):=⟨M9,Qx,wv⟩
def Kb (a:List UInt64)(n:Int):Int:=if n<0∨512<n then 2 else if n<(Py (val a)).length then 3 else 0
def Le (a:List UInt64)(n:Int):List UInt64:=if Kb a n=0 then Py (val a)++List.replicate (n.toNat - (Py (val a)).length) 0 else []
def zs0 {a:List UInt64}{n:Int}(h:Kb a n=0):((Le a n).length:Int)=n∧0≤n∧n≤512:=by
 unfold Le;rw[Ai h];unfold Kb at h;by_cases d:n<0∨512<n
 ·rw[Ai d] at h;simp at h
 ·rw[Ab d] at h;by_cases f:n<(Py (val a)).length
  ·rw[Ai f] at h;simp at h
  ·simp;omega
def repU (n:Nat):Hm [LV.u 0] n=(List.replicate n (0:UInt64)).map .u:=by
 induction n with
 |zero=>rfl
 |succ n a=>simp[Hm,a,Db]
def LN (l:List (List UInt64)):LV:=.lst (l.map LU) l.length 1
attribute [simp] LN
def zy6 (l:List (List UInt64))(i:Nat)(K:LV→Prop):Hj (l.map LU) i K=(i<l.length∧K (LU (l.getD i []))):=ztm _ _ _ _ _
def zxx (l:List (List UInt64)):dats (l.map LU)=true:=uc (fun x=>by simp) l
attribute [simp] zy6 zxx
attribute [simp ↓] zy6
def Sl (a b:UInt64):UInt64:=UInt64.ofNat (a.toNat*b.toNat/18446744073709551616)
def zyr (a b:UInt64):(Sl a b).toNat*18446744073709551616+(a*b).toNat=a.toNat*b.toNat:=by
 have d:=a.toNat_lt;have f:=b.toNat_lt;have g:a.toNat*b.toNat≤18446744073709551615*18446744073709551615:=Ca (by omega) (by omega);rw[Sl,By,Ea];omega
def cr (x:UInt64):(x &&& 4294967295).toNat=x.toNat%4294967296:=by
 rw[UInt64.toNat_and];exact Nat.and_two_pow_sub_one_eq_mod x.toNat 32
def qf (a b:UInt64) :
  M7 (M7 (K5 (J1 a 32) (J1 b 32)) (J1 (M7 (K5 (J1 a 32) (Kk b 4294967295)) (J1 (K5 (Kk a 4294967295) (Kk b 4294967295)) 32)) 32)) (J1 (M7 (K5 (Kk a 4294967295) (J1 b 32)) (Kk (M7 (K5 (J1 a 32) (Kk b 4294967295)) (J1 (K5 (Kk a 4294967295) (Kk b 4294967295)) 32)) 4294967295)) 32)=Sl a b:=by
 simp only[M9,wv,U7,Wf];apply Bn.1;have j:=a.toNat_lt;have l:=b.toNat_lt;simp only[Sl,Bt,Ea,By,cr,Nat.reducePow];generalize a.toNat=x at *;generalize b.toNat=y at *;have d:x=x/4294967296*4294967296+x%4294967296:=by omega
 have f:y=y/4294967296*4294967296+y%4294967296:=by omega
 have m:x/4294967296<4294967296:=by omega
 have o:x%4294967296<4294967296:=by omega
 have w:y/4294967296<4294967296:=by omega
 have z:y%4294967296<4294967296:=by omega
 have m1:x/4294967296%18446744073709551616=x/4294967296:=by omega
 have g:y/4294967296%18446744073709551616=y/4294967296:=by omega
 rw[m1,g];have h:x*y=(x/4294967296*(y/4294967296))*18446744073709551616+(x/4294967296*(y%4294967296))*4294967296+(x%4294967296*(y/4294967296))*4294967296+x%4294967296*(y%4294967296):=by
  generalize x/4294967296=p at *;generalize x%4294967296=q at *;generalize y/4294967296=r at *;generalize y%4294967296=s at *;subst d f
  grind
 rw[h];generalize x/4294967296=p at *;generalize x%4294967296=q at *;generalize y/4294967296=r at *;generalize y%4294967296=s at *;have A:p*r≤4294967295*4294967295:=Ca (by omega) (by omega);have B:p*s≤4294967295*4294967295:=Ca (by omega) (by omega);have C:q*r≤4294967295*4294967295:=Ca (by omega) (by omega);have D:q*s≤4294967295*4294967295:=Ca (by omega) (by omega);generalize p*r=E at *;generalize p*s=F at *;generalize q*r=G at *;generalize q*s=H at *;clear d f m1 g m o w z j l h;omega
def limb_at:∀(a:List UInt64) (i:Nat),(a.getD i 0).toNat=val a/2^(64*i)%18446744073709551616
 |[],i=>by simp[val]
 |x::a,0=>by
  have:=x.toNat_lt;simp[val]
 |x::a,i+1=>by
  have h:=x.toNat_lt;have d:=limb_at a i;rw[zc3,←Nat.div_div_eq_div_mul,val,show (x.toNat+18446744073709551616*val a)/18446744073709551616=val a by omega,←d];simp
def gf (n:List UInt64):Bool:=decide (n.getD 0 0%2=1)
def Ue (n:List UInt64):gf n=(val n).testBit 0:=by
 have h:=limb_at n 0;have e:(n.getD 0 0%2=1)↔(n.getD 0 0).toNat%2=1:=by
  constructor
  ·intro h;simpa using congrArg UInt64.toNat h
  ·intro h;apply Bn.1;simpa using h
 unfold gf;rw[Nat.testBit_zero];simp only[e,h];simp
def Fu {l:List LV}{i:Nat}{v:LV}{K:LV→Prop}(h:l[i]?=some v):Hj l i K=K v:=by simp[Hj,h]
def Vo {α:Type}{f:α→LV}{l:List α}{i:Nat}{a:α}(h:l[i]?=some a):(l.map f)[i]?=some (f a):=by simp[h]
mutual
def bor_self {G:Ev}(v:LV)(h:v.dat=true):bor G v v:=by
 cases v with
 |agg l=>simp only[LV.dat] at h;exact⟨l,rfl,bors_self l h⟩
 |nilSl=>exact .inl rfl
 |dy p k=>simp[LV.dat] at h
 |vw p k lo len=>simp[LV.dat] at h
 |_=>exact⟨rfl,h⟩
termination_by SizeOf.sizeOf v
def bors_self {G:Ev}(l:List LV)(h:dats l=true):bors G l l:=by
 cases l with
 |nil=>rfl
 |cons v l =>
  simp only[dats,Ac] at h;exact⟨v,l,rfl,bor_self v h.1,bors_self l h.2⟩
termination_by SizeOf.sizeOf l
end
def S0 {α:Type}(p:α→Bool)(l:List α):Int:=if l.findIdx p<l.length then (l.findIdx p:Int) else -1
def Wv {α:Type}{p:α→Bool}{l:List α}{i:Nat}{a:α}(h:l[i]?=some a)(d:p a=true)(f:∀j b,j<i→l[j]?=some b→p b=false):S0 p l=i:=by
 obtain⟨hi,rfl⟩:=Aa.1 h;have:l.findIdx p=i:=(List.findIdx_eq hi).2 ⟨d,fun j g=>f j _ g (Ah _)⟩;rw[S0,this,Ai hi]
def ztg {α:Type}{p:α→Bool}{l:List α}{i:Nat}(hi:l.length≤i)(d:∀j b,j<i→l[j]?=some b→p b=false):S0 p l=-1:=by
 have:l.findIdx p=l.length:=List.findIdx_eq_length.2 fun a f=>by
  obtain⟨j,g,rfl⟩:=Cq.1 f;exact d j _ (by omega) (Ah _)
 rw[S0,this,Ab (by omega)]
def zyg {α:Type}(p:α→Bool)(l:List α):decide (0≤S0 p l)=l.any p:=by
 unfold S0;by_cases h:l.findIdx p<l.length
 ·rw[Ai h,B4 (by omega)];exact (Bv.2 ⟨_,Dw h,List.findIdx_getElem⟩).symm
 ·rw[Ab h,Dy (by omega)];have a:=List.findIdx_eq_length.1 (show l.findIdx p=l.length by have:=List.findIdx_le_length (p:=p) (xs:=l);omega);exact (D7.2 fun x d=>by simp[a x d]).symm
def et (l:List Int)(j:Nat)(x:Int)(h:j<l.length):Gp (l.map .i) j [.i x]=(l.set j x).map .i:=by
 unfold Gp;rw[Cg,Ai h];simp[List.map_take,List.map_drop]
def gd (l:List Int)(u:Nat):Int:=l.getD u 0
def sm (l:List Int)(j u:Nat)(x:Int)(h:j<l.length):gd (l.set j x) u=if u=j then x else gd l u:=by
 simp only[gd,Ae,Et];by_cases e:j=u
 ·subst e;simp[h]
 ·simp[e,Ne.symm e]
def jv {l:List Int}{u:Nat}(h:u<l.length):l[u]?=some (gd l u):=by simp[gd,Ae,h]
def lu (l:List Int)(m:Nat):Prop:=∀u v,u<v→v<m→gd l u<gd l v
structure Cmp (l0 l:List Int) (m d:Nat):Prop where
 len:l.length=l0.length
 m1:1≤m
 md:m≤d
 st:lu l m
 mem:∀x,(∃u,u<m∧gd l u=x)↔∃u,u<d∧gd l0 u=x
 last:gd l (m - 1)=gd l0 (d - 1)
 rest:∀u,d - 1≤u→gd l u=gd l0 u∨u<m
def U8 {a r:List LV}{m:Nat}(h:m≤a.length):(Gp a m r).take m=a.take m:=by
 unfold Gp;rw[Br,Eh (by rw[Cr];omega),Ep,Nat.min_self]
def zvf {a r:List LV}{m:Nat}(h:m+r.length=a.length):(Gp a m r).length=a.length:=by
 unfold Gp;simp;omega
def zsp {v:LV}(h:v.dat=true):∀n,dats (Hm [v] n)=true
 |0=>rfl
 |n+1=>by simp[Hm,dats,h,zsp h n]
def zsn {α:Type}{f:α→List LV}{k:Nat}(d:∀a,(f a).length=k):∀l:List α,(l.flatMap f).length=l.length*k
 |[]=>by simp
 |a::l=>by rw[Ds,Aj,zsn d l,d,Ar,Bb];omega
def zzl {α:Type}{f:α→List LV}{k:Nat}(d:∀a,(f a).length=k):∀(l:List α) (i:Nat),(l.flatMap f).drop (i*k)=(l.drop i).flatMap f
 |_,0=>by simp
 |[],i+1=>by simp
 |a::l,i+1=>by
  rw[Ds,List.drop_append,d,show (i+1)*k - k=i*k by rw[Bb];omega,zzl d l i];rw[Cu (by rw[d,Bb];omega)];rfl
def va {α:Type}{f:α→List LV}{k:Nat}(d:∀a,(f a).length=k){l:List α}{i:Nat}{a:α}(h:l[i]?=some a):((l.flatMap f).drop (i*k)).take k=f a:=by
 rw[zzl d];obtain⟨hi,rfl⟩:=Aa.1 h;rw[B8 hi,Ds,Eh (by rw[d];exact Am _),Ax (by rw[d];exact Am _)]
def om {α:Type}{f:α→List LV}{k:Nat}(d:∀a,(f a).length=k){l:List α}{i:Nat}{a:α}(h:l[i]?=some a){j:Nat}(g:j<k):(l.flatMap f)[i*k+j]?=(f a)[j]?:=by
 rw[←Es,←va d h,Ch g]
def tx {α:Type}{f:α→List LV}(d:∀a,dats (f a)=true):∀l:List α,dats (l.flatMap f)=true
 |[]=>rfl
 |a::l=>by rw[Ds];exact dats_app (d a) (tx d l)
def O6 {α:Type}{f:α→List LV}{k:Nat}(d:∀a,(f a).length=k){l:List α}{i:Nat}(h:i<l.length):i*k+k≤(l.flatMap f).length:=by
 rw[zsn d,←D5];exact At _ h
structure Vr where
 limbs:Int
 sec:Bool
 mode:Int
structure Ko where
 kind:Int
 d:Int
 e:Int
 a:Int
 b:Int
 c:Int
 imm:UInt64
def Vr.f (v:Vr):List LV:=[.i v.limbs,.bool v.sec,.i v.mode]
def Ko.f (o:Ko):List LV:=[.i o.kind,.i o.d,.i o.e,.i o.a,.i o.b,.i o.c,.u o.imm]
def Hq (l:List Vr):List LV:=l.flatMap Vr.f
def Mg (l:List Ko):List LV:=l.flatMap Ko.f
def Vr.f_len (v:Vr):v.f.length=3:=rfl
def Ko.f_len (o:Ko):o.f.length=7:=rfl
def eg (l:List Ko):(Mg l).length=l.length*7:=zsn Ko.f_len l
def Ll (l:List Vr):dats (Hq l)=true:=tx (fun _=>rfl) l
def vz (l:List Ko):dats (Mg l)=true:=tx (fun _=>rfl) l
def zdp {l:List Vr}{i:Nat}{v:Vr}(h:l[i]?=some v):((Hq l).drop (i*3)).take 3=v.f:=va Vr.f_len h
def ztd {l:List Ko}{i:Nat}{v:Ko}(h:l[i]?=some v):((Mg l).drop (i*7)).take 7=v.f:=va Ko.f_len h
def zj {l:List Vr}{i:Nat}{v:Vr}(h:l[i]?=some v):(Hq l)[i*3]?=some (.i v.limbs):=by have:=om Vr.f_len h (j:=0) (by omega);simpa [Hq,Vr.f] using this
def ztb {l:List Vr}{i:Nat}{v:Vr}(h:l[i]?=some v):(Hq l)[i*3+1]?=some (.bool v.sec):=by have:=om Vr.f_len h (j:=1) (by omega);simpa [Hq,Vr.f] using this
def tg {l:List Vr}{i:Nat}{v:Vr}(h:l[i]?=some v):(Hq l)[i*3+2]?=some (.i v.mode):=by have:=om Vr.f_len h (j:=2) (by omega);simpa [Hq,Vr.f] using this
def o9 {l:List Vr}{i:Nat}(h:i<l.length):i*3+3≤(Hq l).length:=O6 Vr.f_len h
def j6 {l:List Ko}{i:Nat}(h:i<l.length):i*7+7≤(Mg l).length:=O6 Ko.f_len h
def gv (l:List Vr)(n:Nat):Vr:=l.getD n ⟨0,false,0⟩
def go (l:List Ko)(n:Nat):Ko:=l.getD n ⟨0,0,0,0,0,0,0⟩
def gb (l:List Bool)(n:Nat):Bool:=l.getD n false
def Nq {l:List Vr}{n:Nat}(h:n<l.length):l[n]?=some (gv l n):=by simp[gv,Ae,h]
def zy {l:List Ko}{n:Nat}(h:n<l.length):l[n]?=some (go l n):=by simp[go,Ae,h]
def ir {l:List Bool}{n:Nat}(h:n<l.length):l[n]?=some (gb l n):=by simp[gb,Ae,h]
def zrm {l:List Vr}{n:Nat}(h:n<l.length):l.drop n=gv l n::l.drop (n+1):=by
 rw[B8 h];congr 1;have:=Nq h;rw[Ah h] at this;exact Option.some.inj this
def er {l:List Ko}{n:Nat}(h:n<l.length):l.drop n=go l n::l.drop (n+1):=by
 rw[B8 h];congr 1;have:=zy h;rw[Ah h] at this;exact Option.some.inj this
def Kc (v:Vr):Bool:=decide (v.mode=1) || decide (v.mode=2)
def Yt (v:Vr):Bool:=decide (v.limbs<1) || (decide (512<v.limbs) || (decide (v.mode<0) || decide (3<v.mode)))
def Ob:Nat→Nat→List Vr→Option Nat
 |_,p,[]=>some p
 |i,p,v::l=>if Yt v=true then none else if v.mode=0 then Ob (i+1) p l else if p<i∨v.sec=decide (v.mode=1) then none else Ob (i+1) (p+1) l
def Kj (l:List Vr):Bool:=match Ob 0 0 l with
 |none=>false
 |some p=>decide (1≤l.length)&&(decide (l.length≤256)&&decide (p≤12))
def Rp (n:Nat)(v:Int):Bool:=decide (0≤v)&&decide (v<n)
def Pd (n:Nat)(o:Ko):Bool :=
 decide (o.d=-1)&&(decide (o.e=-1)&&(decide (o.c=-1)&&(Rp n o.a&&(if o.imm=2 then Rp n o.b else (decide (o.imm=1) || decide (o.imm=3))&&decide (o.b=-1)))))
def Jj (k:Int):Option Nat :=
 if k=1 then some 1 else if k=2 then some 5 else if k=3∨k=4∨k=5∨k=6∨k=7 then some 13 else if k=8∨k=10∨k=11∨k=12∨k=13 then some 29 else if k=9 then some 21 else if k=14 then some 19 else if k=15∨k=16 then some 0 else none
def Km (o:Ko):Bool:=if o.kind=1 then true else if o.kind=13 then decide (1≤o.imm)&&decide (o.imm≤6) else if o.kind=15 then decide (1≤o.imm)&&decide (o.imm≤4096) else decide (o.imm=0)
def Mc (n s i:Nat)(v:Int):Bool:=if s.testBit i=true then Rp n v else decide (v=-1)
def Mp (n s:Nat)(o:Ko):Bool:=Mc n s 0 o.d&&(Mc n s 1 o.e&&(Mc n s 2 o.a&&(Mc n s 3 o.b&&Mc n s 4 o.c)))
def Lq (o:Ko):List Int:=[o.a,o.b,o.c].filter (fun v=>!decide (v<0))++if o.kind=14 then [o.d,o.e] else []
def I9 (vs:List Vr)(o:Ko):Bool:=(Lq o).any fun v=>(gv vs v.toNat).sec
def Ol (vs:List Vr)(sec:Bool)(v:Int):Bool:=decide (v<0) || !(Kc (gv vs v.toNat) || (sec && !(gv vs v.toNat).sec))
def J0 (o:Ko):List Int :=
 if o.kind=6 then [o.a,o.b] else if o.kind=14 then [o.d,o.e] else if o.kind=8 then [o.d,o.a,o.b] else if o.kind=9 then [o.d,o.c] else if o.kind=10∨o.kind=11∨o.kind=12 then [o.d,o.a,o.b,o.c] else if o.kind=13 then [o.d,o.a,o.c] else []
def Jw (vs:List Vr)(v:Int):Int:=(gv vs v.toNat).limbs
def Xv (vs:List Vr)(o:Ko):Bool:=(J0 o).all fun v=>decide (Jw vs v=Jw vs ((J0 o).headD 0))
def Hu (vs:List Vr)(o:Ko):Bool :=
 if o.kind=17 then Pd vs.length o else match Jj o.kind with
 |none=>false
 |some s=>Km o&&(Mp vs.length s o&&(Ol vs (I9 vs o) o.d&&(Ol vs (I9 vs o) o.e&&((decide (o.e<0) || !decide (o.d=o.e))&&Xv vs o))))
def dl (k:Int):Int:=if k=15 then 1 else if k=16 then -1 else 0
def Qe (m:List Bool)(o:Ko):List Bool:=if 0≤o.d then m.set o.d.toNat true else m
def gj (m:List Bool)(o:Ko):Bool:=(Lq o).all fun v=>gb m v.toNat
def Mo (vs:List Vr):List Bool→Int→List Ko→Option (List Bool×Int)
 |m,a,[]=>some (m,a)
 |m,a,o::l=>if (Hu vs o&&(gj m o&&(decide (0≤a+dl o.kind)&&decide (a+dl o.kind≤4))))=true then Mo vs (Qe m o) (a+dl o.kind) l else none
def Mx (vs:List Vr)(v:Int):Bool:=decide (0≤v)&&decide ((gv vs v.toNat).mode=3)
def K7 (vs:List Vr)(o:Ko):Bool:=decide (o.kind=17)&&(Pd vs.length o&&(!Mx vs o.a && !Mx vs o.b))
def Yy (vs:List Vr)(m:List Bool):Bool:=(List.range vs.length).all fun i=>!decide ((gv vs i).mode=3) || gb m i
def R4 (vs:List Vr):List Bool:=vs.map Kc
def Ks (vs:List Vr)(os rs:List Ko):Bool :=
 Kj vs&&(decide (os.length≤4096)&&(decide (rs.length≤4096)&&(rs.all (K7 vs)&&(match Mo vs (R4 vs) 0 os with
  |none=>false
  |some (m,a)=>Yy vs m&&decide (a=0)))))
def M0 (vs:List Vr)(os rs:List Ko):Int:=if Ks vs os rs=true then 0 else 2
def zn3 {p:Int→Bool}{l:List Int}{j:Nat}(h:j<l.length):(l.take (j+1)).filter (fun v=>!p v)=(l.take j).filter (fun v=>!p v)++if p (gd l j)=true then [] else [gd l j]:=by
 have e:l[j]=gd l j:=by simp[gd,Ae,h]
 rw[Cj h,List.filter_append,e]
 congr 1
 cases a:p (gd l j)<;>simp[a]
def zz6 (p:Int→Bool)(l:List Int):(S0 p l=-1∧l.filter (fun v=>!p v)=l)∨∃i:Nat,S0 p l=i∧i<l.length∧(l.take (i+1)).filter (fun v=>!p v)=l.take i:=by
 unfold S0;by_cases h:l.findIdx p<l.length
 ·rw[Ai h];refine .inr ⟨_,rfl,h,?_⟩;have f:p l[l.findIdx p]=true:=List.findIdx_getElem;have e:l[l.findIdx p]=gd l (l.findIdx p):=by simp[gd,Ae,h]
  rw[zn3 h,←e,Ai f,Bx,List.filter_eq_self];intro a d;obtain⟨j,g,rfl⟩:=Cq.1 d;rw[List.getElem_take];rw[Cr] at g;have:=List.not_of_lt_findIdx (p:=p) (xs:=l) (i:=j) (by omega);simpa using this
 ·rw[Ab h];refine .inl ⟨rfl,?_⟩;rw[List.filter_eq_self];intro a d;have m:=List.findIdx_eq_length.1 (show l.findIdx p=l.length by have:=List.findIdx_le_length (p:=p) (xs:=l);omega);simp[m a d]
def zqu {c:List Int}{i j:Nat}{x:Int}(h:i<c.length)(a:i<j)(u:Nat)(hu:j≤u):gd (c.set i x) u=gd c u:=by
 rw[sm _ _ _ _ h,Ab (by omega)]
def zm4 {c:List Int}{i:Nat}{x:Int}(h:i<c.length):(c.set i x).take (i+1)=c.take i++[x]:=by
 rw[Cj (by simpa using h),List.getElem_set_self,List.take_set_of_le (Am _)]
def oi {n:Nat}{v:Int}:Rp n v=true↔0≤v∧v<n:=by simp[Rp]
def zav {n s i:Nat}{v:Int}(h:Mc n s i v=true):v=-1∨(0≤v∧v<n):=by
 unfold Mc at h;split at h
 ·exact .inr (oi.1 h)
 ·exact .inl (C8 h)
def Ml {n s i:Nat}{v:Int}(h:Mc n s i v=true)(a:s.testBit i=true):0≤v∧v<n:=by
 rw[Mc,Ai a] at h;exact oi.1 h
def zjl {n s i:Nat}{v:Int}(h:Mc n s i v=true)(a:s.testBit i=false):v=-1:=by
 rw[Mc,Ab (by simp[a])] at h;exact C8 h
def ziu {k:Int}{s:Nat}(h:Jj k=some s):(k=1∧s=1)∨(k=2∧s=5)∨((k=3∨k=4∨k=5∨k=6∨k=7)∧s=13)∨((k=8∨k=10∨k=11∨k=12∨k=13)∧s=29)∨(k=9∧s=21)∨(k=14∧s=19)∨((k=15∨k=16)∧s=0):=by
 unfold Jj at h
 repeat' split at h
 all_goals first|(cases h;done)|(cases h;simp_all)
structure PartsIn (n:Nat) (o:Ko):Prop where
 d:o.d=-1∨(0≤o.d∧o.d<n)
 e:o.e=-1∨(0≤o.e∧o.e<n)
 takes:∀v∈Lq o,0≤v∧v<n
 alike:∀v∈J0 o,0≤v∧v<n
 swap:o.kind=14→o.a=-1∧o.b=-1
def ztu {n s:Nat}{o:Ko}(l:Jj o.kind=some s)(h:Mp n s o=true):PartsIn n o:=by
 simp only[Mp,Ac] at h;obtain⟨hd,he,d,f,g⟩:=h;have three:∀v∈[o.a,o.b,o.c].filter (fun v=>!decide (v<0)),0≤v∧v<n:=by
  intro v hv;obtain⟨a,m⟩:=List.mem_filter.1 hv;simp at m;simp only[An,Cy,Em] at a;rcases a with rfl|rfl|rfl
  ·rcases zav d with e|e<;>omega
  ·rcases zav f with e|e<;>omega
  ·rcases zav g with e|e<;>omega
 have hk:=ziu l;refine⟨zav hd,zav he,fun v hv=>?_,fun v hv=>?_,fun j=>?_⟩
 ·rcases Ay.1 hv with a|a
  ·exact three v a
  ·split at a
   ·rename_i j;have es:s=19:=by omega
    subst es;simp only[An,Cy,Em] at a;rcases a with rfl|rfl
    ·exact Ml hd (by decide)
    ·exact Ml he (by decide)
   ·cases a
 ·unfold J0 at hv;split at hv
  ·have es:s=13:=by omega
   subst es;simp only[An,Cy,Em] at hv;rcases hv with rfl|rfl
   ·exact Ml d (by decide)
   ·exact Ml f (by decide)
  split at hv
  ·have es:s=19:=by omega
   subst es;simp only[An,Cy,Em] at hv;rcases hv with rfl|rfl
   ·exact Ml hd (by decide)
   ·exact Ml he (by decide)
  split at hv
  ·have es:s=29:=by omega
   subst es;simp only[An,Cy,Em] at hv;rcases hv with rfl|rfl|rfl
   ·exact Ml hd (by decide)
   ·exact Ml d (by decide)
   ·exact Ml f (by decide)
  split at hv
  ·have es:s=21:=by omega
   subst es;simp only[An,Cy,Em] at hv;rcases hv with rfl|rfl
   ·exact Ml hd (by decide)
   ·exact Ml g (by decide)
  split at hv
  ·have es:s=29:=by omega
   subst es;simp only[An,Cy,Em] at hv;rcases hv with rfl|rfl|rfl|rfl
   ·exact Ml hd (by decide)
   ·exact Ml d (by decide)
   ·exact Ml f (by decide)
   ·exact Ml g (by decide)
  split at hv
  ·have es:s=29:=by omega
   subst es;simp only[An,Cy,Em] at hv;rcases hv with rfl|rfl|rfl
   ·exact Ml hd (by decide)
   ·exact Ml d (by decide)
   ·exact Ml g (by decide)
  ·cases hv
 ·have es:s=19:=by omega
  subst es;exact⟨zjl d (by decide),zjl f (by decide)⟩
def zxs {n:Nat}{o:Ko}(hk:o.kind=17)(h:Pd n o=true):PartsIn n o:=by
 simp only[Pd,Ac,Ao] at h;obtain⟨hd,he,l,d,a⟩:=h;have d:=oi.1 d;have a:o.b=-1∨(0≤o.b∧o.b<n):=by
  split at a
  ·exact .inr (oi.1 a)
  ·simp only[Ac,Ao] at a;exact .inl a.2
 refine⟨.inl hd,.inl he,fun v hv=>?_,fun v hv=>?_,fun g=>by omega⟩
 ·unfold Lq at hv;rw[Ab (by omega),Bx] at hv;obtain⟨f,j⟩:=List.mem_filter.1 hv;simp at j;simp only[An,Cy,Em] at f;rcases f with rfl|rfl|rfl
  ·omega
  ·rcases a with e|e<;>omega
  ·omega
 ·unfold J0 at hv;rw[Ab (by omega),Ab (by omega),Ab (by omega),Ab (by omega),Ab (by omega),Ab (by omega)] at hv;cases hv
def T9 {vs:List Vr}{o:Ko}(h:Hu vs o=true):PartsIn vs.length o:=by
 unfold Hu at h;split at h
 ·rename_i hk;exact zxs hk h
 ·split at h
  ·cases h
  ·rename_i s a;simp only[Ac] at h;exact ztu a h.2.1
def Pm (o:Ko):List Int:=[o.d,o.e,o.a,o.b,o.c]
def zvk {n s:Nat}{o:Ko}(h:∀j<5,Mc n s j (gd (Pm o) j)=true):Mp n s o=true:=by
 simp only[Mp,Ac];exact⟨h 0 (by omega),h 1 (by omega),h 2 (by omega),h 3 (by omega),h 4 (by omega)⟩
def zy0 {n s:Nat}{o:Ko}{j:Nat}(d:j<5)(h:Mc n s j (gd (Pm o) j)=false):Mp n s o=false:=by
 cases a:Mp n s o with
 |false=>rfl
 |true =>
  simp only[Mp,Ac] at a;have:j=0∨j=1∨j=2∨j=3∨j=4:=by omega
  rcases this with rfl|rfl|rfl|rfl|rfl
  ·exact absurd a.1 (by rw[show o.d=gd (Pm o) 0 from rfl,h];simp)
  ·exact absurd a.2.1 (by rw[show o.e=gd (Pm o) 1 from rfl,h];simp)
  ·exact absurd a.2.2.1 (by rw[show o.a=gd (Pm o) 2 from rfl,h];simp)
  ·exact absurd a.2.2.2.1 (by rw[show o.b=gd (Pm o) 3 from rfl,h];simp)
  ·exact absurd a.2.2.2.2 (by rw[show o.c=gd (Pm o) 4 from rfl,h];simp)
def zx3 {k:Int}{s:Nat}(h:Jj k=some s):s<32:=by rcases ziu h with h|h|h|h|h|h|h<;>omega
def Wq (s i:Nat):((s:Int)/2^i%2=1)↔s.testBit i=true:=by
 rw[Nat.testBit_eq_decide_div_mod_eq,Ao];constructor
 ·intro h;have:((s/2^i%2:Nat):Int)=1:=by push_cast;exact h
  omega
 ·intro h;have:((s/2^i%2:Nat):Int)=1:=by omega
  push_cast at this;exact this
inductive Fr (α:Type) where
 |nil
 |op (o:α) (r:Fr α)
 |loop (o:α) (b:Fr α) (e:α) (r:Fr α)
section tree
variable {α : Type}
def Fr.flat:Fr α→List α
 |.nil=>[]
 |.op o r=>o::r.flat
 |.loop o b e r=>o::(b.flat++e::r.flat)
def Fr.size:Fr α→Nat
 |.nil=>0
 |.op _ r=>r.size+1
 |.loop _ b _ r=>b.size+r.size+2
def Fr.flat_len:∀f:Fr α,f.flat.length=f.size
 |.nil=>rfl
 |.op _ r=>by simp[flat,size,flat_len r]
 |.loop _ b _ r=>by simp[flat,size,flat_len b,flat_len r];omega
def Fr.wf (kd:α→Nat):Fr α→Prop
 |.nil=>True
 |.op o r=>kd o=0∧r.wf kd
 |.loop o b e r=>kd o=1∧kd e=2∧b.wf kd∧r.wf kd
def Ow (a:α→Nat):Nat→List α→Prop
 |d,[]=>d=0
 |d,o::l=>if a o=1 then Ow a (d+1) l else if a o=2 then 0<d∧Ow a (d - 1) l else a o=0∧Ow a d l
def Fr.ends:Nat→Fr α→List Int
 |_,.nil=>[]
 |i,.op _ r=>-1::r.ends (i+1)
 |i,.loop _ b _ r=>((i+b.size+1:Nat):Int)::(b.ends (i+1)++(i:Int)::r.ends (i+b.size+2))
def Fr.ends_len:∀(f:Fr α) (i:Nat),(f.ends i).length=f.size
 |.nil,_=>rfl
 |.op _ r,i=>by simp[ends,size,ends_len r]
 |.loop _ b _ r,i=>by simp[ends,size,ends_len b,ends_len r];omega
end tree
def kdK (o:Ko):Nat:=if o.kind=15 then 1 else if o.kind=16 then 2 else 0
end Go.Sv
namespace Go.Sv
abbrev Sp:=Int×Int
def Fr.tops {α:Type}:Nat→Fr α→List Sp
 |_,.nil=>[]
 |i,.op _ r=>r.tops (i+1)
 |i,.loop _ b _ r=>((i:Int),((i+b.size+1:Nat):Int))::r.tops (i+b.size+2)
def gs (l:List Sp)(n:Nat):Sp:=l.getD n (0,0)
structure Left (os:List Ko) (es:List Int) (T0:List Sp) (i:Nat) (r:Fr Ko) (T:List Sp):Prop where
 os:os.drop i=r.flat
 es:es.drop i=r.ends i
 wf:r.wf kdK
 tops:T0=T++r.tops i
end Go.Sv
