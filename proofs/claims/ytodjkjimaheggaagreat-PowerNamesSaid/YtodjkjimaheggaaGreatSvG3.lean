/- Texts of the evaluator, of the logic over it, of plain arithmetic. -/
import Derived.Test.YtodjkjimaheggaaGreatSvG2
set_option linter.unusedSimpArgs false
set_option linter.defProp false
namespace Go.Sv
def Qn (k d:Int):Ko:=⟨k,d,-1,-1,-1,-1,0⟩
def Nc:Nat→List Vr→List Ko
 |_,[]=>[]
 |i,v::l=>if Kc v=true then Nc (i+1) l else Qn 1 i::Nc (i+1) l
def startOs_len:∀(l:List Vr) (i:Nat),(Nc i l).length≤l.length
 |[],_=>by simp[Nc]
 |v::l,i=>by
  have:=startOs_len l (i+1);unfold Nc;split<;>simp<;>omega
def g8 (k:Int):Bool:=decide (k=15) || decide (k=16)
def L5 (vs:List Vr)(o:Ko):Bool:=!g8 o.kind&&Ks vs (Nc 0 vs++[o]) []
def zza (vs:List Vr):∀(j a:List Ko) (m f:List Bool) (d g:Int),Mo vs m d j=some (f,g)→Mo vs m d (j++a)=Mo vs f g a
 |[],a,m,f,d,g,h=>by cases h;rfl
 |o::j,a,m,f,d,g,h=>by
  unfold Mo at h;split at h
  ·rename_i l;rw[Bi,Mo,Ai l];exact zza vs j a _ f _ g h
  ·cases h
def zwa {vs:List Vr}{i:Nat}(h:i<vs.length)(a:Kc (gv vs i)=false):Hu vs (Qn 1 i)=true:=by
 have e:Rp vs.length (i:Int)=true:=oi.2 ⟨by omega,by omega⟩;have t1:Nat.testBit 1 1=false:=by decide
 have t2:Nat.testBit 1 2=false:=by decide
 have t3:Nat.testBit 1 3=false:=by decide
 have t4:Nat.testBit 1 4=false:=by decide
 simp[Hu,Qn,Jj,Km,Mp,Mc,e,Ol,a,I9,Lq,Xv,J0,t1,t2,t3,t4]
def zy3 (m:List Bool)(i j:Nat)(hi:i<m.length):gb (m.set i true) j=if j=i then true else gb m j:=by
 unfold gb;rw[Ae,Ae,Et];by_cases h:i=j
 ·subst h;simp[hi]
 ·rw[Ab h,Ab (fun q=>h q.symm)]
def zeb {vs:List Vr}:∀(l:List Vr) (i:Nat) (m:List Bool),vs.drop i=l→m.length=vs.length→(∀j,j<i→gb m j=true)→(∀j,i≤j→j<vs.length→gb m j=Kc (gv vs j)) →
  ∃d,Mo vs m 0 (Nc i l)=some (d,0)∧d.length=vs.length∧∀j,j<vs.length→gb d j=true
 |[],i,m,hd,g,h,o=>by
  have:vs.length≤i:=by have:=congrArg List.length hd;simp at this;omega
  exact⟨m,rfl,g,fun j p=>h j (by omega)⟩
 |v::l,i,m,hd,g,h,o=>by
  have hi:i<vs.length:=by have:=congrArg List.length hd;simp at this;omega
  have s:=zrm hi;rw[hd] at s;obtain⟨rfl,rfl⟩:=List.cons.inj s;unfold Nc;by_cases q:Kc (gv vs i)=true
  ·rw[Ai q];refine zeb _ (i+1) m rfl g (fun j p=>?_) (fun j p a=>o j (by omega) a);by_cases e:j=i
   ·subst e;rw[o j (Am _) hi,q]
   ·exact h j (by omega)
  ·rw[Ab q];have r:Kc (gv vs i)=false:=by simpa using q
   have f:=zwa hi r;have w:gj m (Qn 1 i)=true:=by simp[gj,Lq,Qn]
   obtain⟨d,x,y⟩:=zeb (vs.drop (i+1)) (i+1) (m.set i true) rfl (by simpa using g) (fun j p=>by
    rw[zy3 _ _ _ (by omega)];split
    ·rfl
    ·exact h j (by omega)) (fun j p a=>by rw[zy3 _ _ _ (by omega),Ab (by omega)];exact o j (by omega) a)
   refine⟨d,?_,y⟩;rw[Mo,Ai (by rw[f,w];simp[dl,Qn])];have z:Qe m (Qn 1 i)=m.set i true:=by simp[Qe,Qn]
   rw[z];simpa [dl,Qn] using x
def zh8 {vs:List Vr}(h:Kj vs=true):1≤vs.length∧vs.length≤256:=by
 unfold Kj at h;split at h
 ·cases h
 ·simp only[Ac,Ao] at h;omega
def vgo_limbs:∀(l:List Vr) (i p r:Nat),Ob i p l=some r→∀v∈l,1≤v.limbs∧v.limbs≤512∧0≤v.mode∧v.mode≤3
 |[],_,_,_,_,v,hv=>by cases hv
 |w::l,i,p,r,h,v,hv=>by
  unfold Ob at h;split at h
  ·cases h
  ·rename_i a;have hw:1≤w.limbs∧w.limbs≤512∧0≤w.mode∧w.mode≤3:=by
    simp[Yt] at a;omega
   have key:∀r',Ob (i+1) r' l=some r→1≤v.limbs∧v.limbs≤512∧0≤v.mode∧v.mode≤3:=fun r' d=>by
    rcases An.1 hv with rfl|hv
    ·exact hw
    ·exact vgo_limbs l _ _ r d v hv
   split at h
   ·exact key _ h
   ·split at h
    ·cases h
    ·exact key _ h
def zqo {vs:List Vr}(h:Kj vs=true):∀v∈vs,1≤v.limbs∧v.limbs≤512∧0≤v.mode∧v.mode≤3:=by
 unfold Kj at h;split at h
 ·cases h
 ·rename_i p a;exact vgo_limbs vs 0 0 p a
def ma {vs:List Vr}{i:Nat}(h:i<vs.length):gv vs i∈vs:=A7 (Nq h)
def V8 {vs:List Vr}(h:Kj vs=true){v:Int}(a:0≤v)(d:v<vs.length):1≤Jw vs v∧Jw vs v≤512:=by
 have:=zqo h _ (ma (vs:=vs) (i:=v.toNat) (by omega));exact⟨this.1,this.2.1⟩
def T5 (vs:List Vr)(o:Ko):L5 vs o=(!g8 o.kind&&(Kj vs&&Hu vs o)):=by
 unfold L5;cases hk:g8 o.kind with
 |true=>rfl
 |false =>
  simp only[Bool.not_false,Ed];unfold Ks;cases hv:Kj vs with
  |false=>rfl
  |true =>
   have r:=zh8 hv;have h:=startOs_len vs 0;obtain⟨m,l,s,d⟩:=zeb vs 0 (R4 vs) rfl (by simp[R4]) (fun j g=>by omega) (fun j _ g=>by
    unfold gb R4;rw[Ae,Cc,Nq g];rfl)
   rw[zza vs _ _ _ _ _ _ l];have p:decide ((Nc 0 vs++[o]).length≤4096)=true:=B4 (by simp;omega);rw[p];simp only[Ed,Bc,List.all_nil,show decide (0≤4096)=true from rfl];have f:dl o.kind=0:=by simp[g8] at hk;simp[dl,hk.1,hk.2]
   cases ho:Hu vs o with
   |false=>simp[Mo,ho]
   |true =>
    have a:=T9 ho;have q:gj m o=true:=by
     unfold gj;rw[Cb];intro v hv;have:=a.takes v hv;exact d _ (by omega)
    have hm:Yy vs (Qe m o)=true:=by
     unfold Yy;rw[Cb];intro i hi;have hi:=Cp.1 hi;have:gb (Qe m o) i=true:=by
      unfold Qe;split
      ·have:=a.d;rw[zy3 _ _ _ (by omega)];split
       ·rfl
       ·exact d i hi
      ·exact d i hi
     simp[this]
    simp[Mo,ho,q,f,hm]
def Gs (vs:List Vr)(o:Ko):Int:=if (decide (o.kind=13)&&L5 vs o)=true then (3+2^o.imm.toNat)*Jw vs o.c+Jw vs o.b+1+(Jw vs o.c+2) else 0
def zpb {vs:List Vr}{o:Ko}{s:Nat}(h:Hu vs o=true)(a:Jj o.kind=some s):Mp vs.length s o=true∧Km o=true∧Xv vs o=true:=by
 unfold Hu at h;split at h
 ·rename_i hk;rw[hk] at a;simp[Jj] at a
 ·rw[a] at h;simp only[Ac] at h;exact⟨h.2.1,h.1,h.2.2.2.2.2⟩
def zoe {vs:List Vr}{o:Ko}{s:Nat}(h:L5 vs o=true)(a:Jj o.kind=some s):Kj vs=true∧Mp vs.length s o=true∧Km o=true∧Xv vs o=true:=by
 rw[T5] at h;simp only[Ac] at h;exact⟨h.2.1,zpb h.2.2 a⟩
def zre {n s:Nat}{o:Ko}(h:Mp n s o=true)(a:s.testBit 2=true):0≤o.a∧o.a<n:=by
 simp only[Mp,Ac] at h;exact Ml h.2.2.1 a
def yw {n s:Nat}{o:Ko}(h:Mp n s o=true)(a:s.testBit 3=true):0≤o.b∧o.b<n:=by
 simp only[Mp,Ac] at h;exact Ml h.2.2.2.1 a
def xm {n s:Nat}{o:Ko}(h:Mp n s o=true)(a:s.testBit 4=true):0≤o.c∧o.c<n:=by
 simp only[Mp,Ac] at h;exact Ml h.2.2.2.2 a
def zr9 {n s:Nat}{o:Ko}(h:Mp n s o=true)(a:s.testBit 0=true):0≤o.d∧o.d<n:=by
 simp only[Mp,Ac] at h;exact Ml h.1 a
def zb1 {vs:List Vr}(hv:Kj vs=true){v:Int}(h:0≤v∧v<vs.length):∃k:Nat,v=k∧k<vs.length∧(Hq vs)[k*3]?=some (.i (Jw vs v))∧1≤Jw vs v∧Jw vs v≤512:=by
 obtain⟨k,rfl⟩:=Af h.1;have hk:k<vs.length:=by omega
 have:=V8 hv h.1 h.2;exact⟨k,rfl,hk,zj (Nq hk),this⟩
def kd_1 {o:Ko}:kdK o=1↔o.kind=15:=by unfold kdK;split<;>(try split)<;>simp_all
def Fr.map {α:Type}(g:α→α):Fr α→Fr α
 |.nil=>.nil
 |.op o r=>.op (g o) (r.map g)
 |.loop o b e r=>.loop (g o) (b.map g) (g e) (r.map g)
def ai (vs:List Vr):List Nat:=(List.range vs.length).filter fun i=>Kc (gv vs i)
abbrev Hl:=Int×Int
def zyn (x y:Hl):Prop:=x.2≤y.1∨y.2≤x.1
def Ap (size:Int)(l:List Hl):Prop:=l.Pairwise zyn∧∀h∈l,0≤h.1∧h.1<h.2∧h.2≤size
structure St where
 holes:List Hl
 size:Int
def ivs (a:Nat→Hl)(sec:Nat→Bool)(s:Bool)(busy:List Nat):List Hl:=(busy.filter fun v=>sec v==s).map a
def tu (wk:Bool→Int)(d:Nat→Hl)(sec:Nat→Bool)(busy:List Nat)(a:Bool→St):Prop :=
 ∀s,0≤(a s).size∧Ap (a s).size ((0,wk s)::(ivs d sec s busy++(a s).holes))
structure Plan0 (wk:Bool→Int) (a b Io:Nat→Int) (sec:Nat→Bool) (done busy:List Nat) (iv:Nat→Hl) (ps:Bool→St) (cur:Int):Prop where
 ok:tu wk iv sec busy ps
 wide:∀v∈done,(iv v).2=(iv v).1+Io v
 nd:busy.Nodup
 sub:∀v∈busy,v∈done
 over:∀v∈done,v ∉ busy→b v<cur
 pairs:∀v∈done,∀w∈done,v≠w→sec v=sec w→zyn (iv v) (iv w)∨b v<a w∨b w<a v
 inn:∀v∈done,0≤(iv v).1∧(iv v).2≤(ps (sec v)).size∧zyn (0,wk (sec v)) (iv v)
 sz:(ps false).size+(ps true).size≤wk false+wk true+(done.map Io).sum
end Go.Sv
noncomputable section
namespace Go.Sv
structure Bf where
 size:Int
 kind:Int
 sec:Bool
structure Lo where
 kind:Int
 d:Int
 e:Int
 a:Int
 b:Int
 c:Int
 buf:Int
 imm:UInt64
 deriving DecidableEq
def Bf.f (v:Bf):List LV:=[.i v.size,.i v.kind,.bool v.sec]
def Lo.f (o:Lo):List LV:=[.i o.kind,.i o.d,.i o.e,.i o.a,.i o.b,.i o.c,.i o.buf,.u o.imm]
def Ga (l:List Bf):List LV:=l.flatMap Bf.f
def Gi (l:List Lo):List LV:=l.flatMap Lo.f
def Bf.f_len (v:Bf):v.f.length=3:=rfl
def Lo.f_len (o:Lo):o.f.length=8:=rfl
def Rh (l:List Lo):(Gi l).length=l.length*8:=zsn Lo.f_len l
def Jf (l:List Bf):dats (Ga l)=true:=tx (fun _=>rfl) l
def Jv (l:List Lo):dats (Gi l)=true:=tx (fun _=>rfl) l
def zsx {l:List Bf}{i:Nat}{v:Bf}(h:l[i]?=some v):((Ga l).drop (i*3)).take 3=v.f:=va Bf.f_len h
def zgr {l:List Lo}{i:Nat}{v:Lo}(h:l[i]?=some v):((Gi l).drop (i*8)).take 8=v.f:=va Lo.f_len h
def Yf {l:List Bf}{i:Nat}{v:Bf}(h:l[i]?=some v):(Ga l)[i*3]?=some (.i v.size):=by have:=om Bf.f_len h (j:=0) (by omega);simpa [Ga,Bf.f] using this
def jz {l:List Bf}{i:Nat}{v:Bf}(h:l[i]?=some v):(Ga l)[i*3+1]?=some (.i v.kind):=by have:=om Bf.f_len h (j:=1) (by omega);simpa [Ga,Bf.f] using this
def Wi {l:List Bf}{i:Nat}{v:Bf}(h:l[i]?=some v):(Ga l)[i*3+2]?=some (.bool v.sec):=by have:=om Bf.f_len h (j:=2) (by omega);simpa [Ga,Bf.f] using this
def gz {l:List Lo}{i:Nat}{v:Lo}(h:l[i]?=some v){j:Nat}(a:j<8):(Gi l)[i*8+j]?=v.f[j]?:=om Lo.f_len h a
def Yp {l:List Bf}{i:Nat}(h:i<l.length):i*3+3≤(Ga l).length:=O6 Bf.f_len h
def uh {l:List Lo}{i:Nat}(h:i<l.length):i*8+8≤(Gi l).length:=O6 Lo.f_len h
def zlu (a b:List Lo):Gi (a++b)=Gi a++Gi b:=by simp[Gi]
def du (a b:List Bf):Ga (a++b)=Ga a++Ga b:=by simp[Ga]
def Fk (l:List Bf)(n:Nat):Bf:=l.getD n ⟨0,0,false⟩
def sj (l:List Lo)(n:Nat):Lo:=l.getD n ⟨0,0,0,0,0,0,0,0⟩
def Kl {l:List Bf}{n:Nat}(h:n<l.length):l[n]?=some (Fk l n):=by simp[Fk,Ae,h]
def zo4 {l:List Lo}{n:Nat}(h:n<l.length):l[n]?=some (sj l n):=by simp[sj,Ae,h]
def zme {l:List Lo}{n:Nat}(h:n<l.length):l.drop n=sj l n::l.drop (n+1):=by
 rw[B8 h];congr 1;have:=zo4 h;rw[Ah h] at this;exact Option.some.inj this
def y4 (n:Nat):Hm [.bool false] n=(List.replicate n false).map LV.bool:=by
 induction n with
 |zero=>rfl
 |succ n a=>rw[Hm,a,Db];rfl
def Ht (o:Lo):List Int :=
 if o.kind=2∨o.kind=8∨o.kind=9 then [o.a]
 else if (3≤o.kind∧o.kind≤7)∨o.kind=10 then [o.a,o.b]
 else if o.kind=11∨o.kind=12∨o.kind=13 then [o.a,o.b,o.c]
 else if o.kind=14∧¬o.a=-1 then [o.a]
 else if o.kind=15∧¬o.a=-1 then [o.a,o.b]
 else if o.kind=15 then [o.b] else []
def E8 (o:Lo):List Int :=
 if o.kind=10∨o.kind=11∨o.kind=12 then [o.d,o.e]
 else if o.kind=15∨o.kind=17 then [] else [o.d]
def Fh (regs r:Int)(has:Bool):Bool:=if has=true then decide (0≤r)&&decide (r<regs) else decide (r=-1)
def Gj (k:Int):Bool:=!decide (k=15) && !decide (k=17)
def Gh (k:Int):Bool:=decide (k=10) || (decide (k=11) || decide (k=12))
def Gr (k:Int):Bool:=!decide (k=1)&&(!decide (k=16) && !decide (k=17))
def Jg (k:Int):Bool:=(decide (3≤k)&&decide (k≤7)) || ((decide (10≤k)&&decide (k≤13)) || decide (k=15))
def Jl (k:Int):Bool:=decide (11≤k)&&decide (k≤13)
def Gf (k:Int):Bool:=decide (k=14) || decide (k=15)
def Ib (regs:Int)(bs:List Bf)(o:Lo):Bool :=
 (decide (1≤o.kind)&&decide (o.kind≤17))&&(Fh regs o.d (Gj o.kind)&&(Fh regs o.e (Gh o.kind)&&((Fh regs o.a (Gr o.kind) || (Gf o.kind&&decide (o.a=-1)))&&(Fh regs o.b (Jg o.kind)&&(Fh regs o.c (Jl o.kind)&&(!(Gh o.kind&&decide (o.d=o.e)) &&
  (if Gf o.kind=true then decide (0≤o.buf)&&(decide (o.buf<bs.length)&&(!(decide (o.kind=15)&&decide ((Fk bs o.buf.toNat).kind=1))&&(!decide (o.a=-1) || decide (o.imm<iU (Fk bs o.buf.toNat).size))))
   else decide (o.buf=0)&&(if o.kind=1 then true else if o.kind=8∨o.kind=9 then decide (1≤o.imm)&&decide (o.imm≤63) else if o.kind=16 then decide (1≤o.imm)&&decide (o.imm≤1048576) else decide (o.imm=0)))))))))
def I0 (m:List Bool)(r:Int):Bool:=m.getD r.toNat false
def M5 (regs:Int)(bs:List Bf)(m:List Bool)(ls:List Int)(o:Lo):Int×List Bool×List Int :=
 if Ib regs bs o=false then (2,m,ls)
 else if o.kind=17 then (match ls.getLast? with|none=>(9,m,ls)|some d=>(0,m.set d.toNat false,ls.dropLast))
 else if (E8 o).any (fun r=>ls.contains r)=true then (9,m,ls)
 else if o.kind=16∧I0 m o.d=true then (9,m,ls)
 else if o.kind=16∧ls.length=8 then (10,m,ls)
 else if (Ht o).any (fun r=>!I0 m r)=true then (5,m,ls)
 else (0,(E8 o).foldl (fun m r=>m.set r.toNat true) m,if o.kind=16 then ls++[o.d] else ls)
def Rz (regs:Int)(bs:List Bf):Nat→List Bool→List Int→List Lo→Int×Int
 |i,_,ls,[]=>if ls=[] then (i,0) else (i,9)
 |i,m,ls,o::l=>if (M5 regs bs m ls o).1=0 then Rz regs bs (i+1) (M5 regs bs m ls o).2.1 (M5 regs bs m ls o).2.2 l else (i,(M5 regs bs m ls o).1)
def Jq (regs:Int)(bs:List Bf)(os:List Lo):Int×Int :=
 if 64<regs∨32<bs.length∨65536<os.length then (0,3)
 else if (bs.any fun b=>decide (65536<b.size))=true then (0,3)
 else if regs<0 then (0,2)
 else if (bs.any fun b=>decide (b.size<1) || (decide (b.kind<1) || decide (3<b.kind)))=true then (0,2)
 else Rz regs bs 0 (List.replicate regs.toNat false) [] os
structure Ms where
 i:Nat
 first:Bool
 r:List UInt64
 bufs:List (List UInt64)
 l:List (Int×Int)
def atR (r:List UInt64)(x:Int):UInt64:=if x<0 then 0 else r.getD x.toNat 0
def F2 (b:Bool):UInt64:=if b then 1 else 0
def Fb (r:List UInt64)(x:Int)(v:UInt64):List UInt64:=if 0≤x then r.set x.toNat v else r
def Fv (o:Lo)(a b:UInt64)(c:Bool):UInt64×UInt64 :=
 if o.kind=1 then (o.imm,0) else if o.kind=2 then (a,0) else if o.kind=3 then (a+b,0) else if o.kind=4 then (a - b,0)
 else if o.kind=5 then (a &&& b,0) else if o.kind=6 then (a ||| b,0) else if o.kind=7 then (a ^^^ b,0)
 else if o.kind=8 then (UInt64.ofNat (a.toNat*2^o.imm.toNat),0) else if o.kind=9 then (UInt64.ofNat (a.toNat/2^o.imm.toNat),0)
 else if o.kind=10 then (Sl a b,a*b) else if o.kind=11 then ((Iy a b c).1,F2 (Iy a b c).2) else if o.kind=12 then ((Gx a b c).1,F2 (Gx a b c).2)
 else if o.kind=13 then (if c then a else b,0) else (0,0)
def Md (bufs:List (List UInt64))(x:Int):List UInt64:=bufs.getD x.toNat []
def M3 (o:Lo)(s:Ms):Option Ms :=
 if o.kind=14 then
  (if (o.imm+atR s.r o.a).toNat<(Md s.bufs o.buf).length then
   some ⟨s.i+1,s.first,Fb (Fb s.r o.d ((Md s.bufs o.buf).getD (o.imm+atR s.r o.a).toNat 0)) o.e 0,s.bufs,s.l++[((s.i:Int),(((o.imm+atR s.r o.a).toNat:Nat):Int))]⟩ else none)
 else if o.kind=15 then
  (if (o.imm+atR s.r o.a).toNat<(Md s.bufs o.buf).length then
   some ⟨s.i+1,s.first,Fb (Fb s.r o.d 0) o.e 0,s.bufs.set o.buf.toNat ((Md s.bufs o.buf).set (o.imm+atR s.r o.a).toNat (atR s.r o.b)),s.l++[((s.i:Int),(((o.imm+atR s.r o.a).toNat:Nat):Int))]⟩ else none)
 else some ⟨s.i+1,s.first,Fb (Fb s.r o.d (Fv o (atR s.r o.a) (atR s.r o.b) (decide (atR s.r o.c%2=1))).1) o.e (Fv o (atR s.r o.a) (atR s.r o.b) (decide (atR s.r o.c%2=1))).2,s.bufs,s.l++[((s.i:Int),(-1:Int))]⟩
def Jc (os:List Lo)(es:List Int)(s:Ms):Option Ms :=
 match os[s.i]? with
 |none=>some s
 |some o =>
  if o.kind=16 then some ⟨s.i+1,true,if s.first then Fb s.r o.d 0 else s.r,s.bufs,s.l++[((s.i:Int),(-1:Int))]⟩
  else if o.kind=17 then
   (match os[(es.getD s.i 0).toNat]? with
   |none=>none
   |some p=>if atR s.r p.d+1<p.imm then some ⟨(es.getD s.i 0).toNat,false,Fb s.r p.d (atR s.r p.d+1),s.bufs,s.l⟩ else some ⟨s.i+1,s.first,s.r,s.bufs,s.l⟩)
  else M3 o s
def Ho (os:List Lo)(es:List Int):Nat→Ms→Option Ms
 |0,s=>some s
 |n+1,s=>match Jc os es s with
  |none=>none
  |some a=>Ho os es n a
end Go.Sv
end
namespace Go.Sv
def Im (o:Lo):Nat:=if o.kind=16 then 1 else if o.kind=17 then 2 else 0
structure Fs where
 r:Nat→UInt64
 m:Nat→Nat→UInt64
def Fs.put (s:Fs)(d:Nat)(v:UInt64):Fs:=⟨fun x=>if x=d then v else s.r x,s.m⟩
def Fs.sto (s:Fs)(b n:Nat)(v:UInt64):Fs:=⟨s.r,fun x y=>if x=b∧y=n then v else s.m x y⟩
def Kw (s:Fs)(x:Int):UInt64:=if x<0 then 0 else s.r x.toNat
def Ja (s:Fs)(x:Int)(v:UInt64):Fs:=if 0≤x then s.put x.toNat v else s
def Ih (sz:Nat→Nat)(o:Lo)(s:Fs):Option Fs :=
 if o.kind=14 then (if (o.imm+Kw s o.a).toNat<sz o.buf.toNat then some (Ja (Ja s o.d (s.m o.buf.toNat (o.imm+Kw s o.a).toNat)) o.e 0) else none)
 else if o.kind=15 then (if (o.imm+Kw s o.a).toNat<sz o.buf.toNat then some (Ja (Ja (s.sto o.buf.toNat (o.imm+Kw s o.a).toNat (Kw s o.b)) o.d 0) o.e 0) else none)
 else some (Ja (Ja s o.d (Fv o (Kw s o.a) (Kw s o.b) (decide (Kw s o.c%2=1))).1) o.e (Fv o (Kw s o.a) (Kw s o.b) (decide (Kw s o.c%2=1))).2)
def We (f:Fs→Option Fs)(d:Nat):Nat→Nat→Fs→Option Fs
 |0,_,s=>some s
 |n+1,j,s=>match f (s.put d (UInt64.ofNat j)) with
  |none=>none
  |some a=>We f d n (j+1) a
def Lf (sz:Nat→Nat):Fr Lo→Fs→Option Fs
 |.nil,s=>some s
 |.op o r,s=>match Ih sz o s with
  |none=>none
  |some a=>Lf sz r a
 |.loop o b _ r,s=>match We (Lf sz b) o.d.toNat o.imm.toNat 0 s with
  |none=>none
  |some a=>Lf sz r a
def Fr.noW (x:Nat):Fr Lo→Bool
 |.nil=>true
 |.op o r=>!decide (o.d=x)&&(!decide (o.e=x)&&r.noW x)
 |.loop o b _ r=>!decide (o.d.toNat=x)&&(b.noW x&&r.noW x)
def qq {s:Fs}{d:Int}{v:UInt64}{x:Nat}(h:¬d=x):(Ja s d v).r x=s.r x:=by
 unfold Ja;split
 ·show (if x=d.toNat then v else s.r x)=s.r x;rw[Ab (by omega)]
 ·rfl
def xg {sz:Nat→Nat}{o:Lo}{s f:Fs}{x:Nat}(h:Ih sz o s=some f)(a:¬o.d=x)(d:¬o.e=x):f.r x=s.r x:=by
 unfold Ih at h;split at h
 ·split at h
  ·cases h;rw[qq d,qq a]
  ·cases h
 ·split at h
  ·split at h
   ·cases h;rw[qq d,qq a];rfl
   ·cases h
  ·cases h;rw[qq d,qq a]
def zti {f:Fs→Option Fs}{P:Fs→Prop}{d:Nat}(hd:∀s v,P s→P (s.put d v))(l:∀s a,P s→f s=some a→P a):∀(n j:Nat) (s a:Fs),P s→We f d n j s=some a→P a
 |0,_,s,a,g,h=>by cases h;exact g
 |n+1,j,s,a,g,h=>by
  unfold We at h;split at h
  ·cases h
  ·rename_i s1 m;exact zti hd l n (j+1) s1 a (l _ _ (hd _ _ g) m) h
def zvx {sz:Nat→Nat}{x:Nat}:∀(f:Fr Lo) (s a:Fs),f.noW x=true→Lf sz f s=some a→a.r x=s.r x
 |.nil,s,a,_,h=>by cases h;rfl
 |.op o r,s,a,hw,h=>by
  simp only[Fr.noW,Ac,Bs,Bl] at hw;unfold Lf at h;split at h
  ·cases h
  ·rename_i s1 d;rw[zvx r s1 a hw.2.2 h,xg d hw.1 hw.2.1]
 |.loop o b e r,s,a,hw,h=>by
  simp only[Fr.noW,Ac,Bs,Bl] at hw;unfold Lf at h;split at h
  ·cases h
  ·rename_i s1 d;rw[zvx r s1 a hw.2.2 h];refine zti (P:=fun t=>t.r x=s.r x) (fun t v g=>?_) (fun t j g h=>by rw[zvx b t j hw.2.1 h,g]) _ _ _ _ rfl d;show (if x=o.d.toNat then v else t.r x)=_;rw[Ab (fun q=>hw.1 q.symm)];exact g
def Xr (ls:List Nat)(x:Int):Bool:=decide (-1≤x)&&(decide (x<64) && !ls.contains x.toNat || decide (x=-1))
def Fr.regs (nb:Nat):List Nat→Fr Lo→Bool
 |_,.nil=>true
 |ls,.op o r=>Xr ls o.d&&(Xr ls o.e&&(decide (o.a<64)&&(decide (o.b<64)&&(decide (o.c<64)&&(decide (o.buf.toNat<nb)&&r.regs nb ls)))))
 |ls,.loop o b _ r=>Xr ls o.d&&(decide (0≤o.d)&&(decide (1≤o.imm.toNat)&&(b.regs nb (o.d.toNat::ls)&&r.regs nb ls)))
def zh4 {nb x:Nat}:∀(f:Fr Lo) (ls:List Nat),x∈ls→f.regs nb ls=true→f.noW x=true
 |.nil,_,_,_=>rfl
 |.op o r,ls,d,h=>by
  simp only[Fr.regs,Ac,Xr,Ao,Bm,Bs,List.contains_eq_mem,Bl] at h;obtain⟨⟨l,a⟩,⟨m,g⟩,_,_,_,_,j⟩:=h;simp only[Fr.noW,Ac,Bs,Bl];refine⟨fun q=>?_,fun q=>?_,zh4 r ls d j⟩
  ·rcases a with ⟨_,a⟩|a
   ·apply a;rw[q];exact d
   ·omega
  ·rcases g with ⟨_,g⟩|g
   ·apply g;rw[q];exact d
   ·omega
 |.loop o b e r,ls,d,h=>by
  simp only[Fr.regs,Ac,Xr,Ao,Bm,Bs,List.contains_eq_mem,Bl] at h;obtain⟨⟨l,a⟩,m,_,g,j⟩:=h;simp only[Fr.noW,Ac,Bs,Bl];refine⟨fun q=>?_,zh4 b _ (Az _ d) g,zh4 r ls d j⟩;rcases a with ⟨_,a⟩|a
  ·apply a;rw[q];exact d
  ·omega
structure Rep (nb:Nat) (sz:Nat→Nat) (s:Ms) (t:Fs):Prop where
 rl:s.r.length=64
 r:∀x,x<64→s.r.getD x 0=t.r x
 bl:s.bufs.length=nb
 len:∀b,b<nb→(s.bufs.getD b []).length=sz b
 m:∀b n,b<nb→n<sz b→(s.bufs.getD b []).getD n 0=t.m b n
section rep
variable {nb : Nat} {sz : Nat → Nat} {s : Ms} {t : Fs}
def Rep.at (h:Rep nb sz s t){x:Int}(hx:x<64):atR s.r x=Kw t x:=by
 unfold atR Kw;split
 ·rfl
 ·exact h.r _ (by omega)
def S1 {α:Type}(l:List α)(i j:Nat)(v d:α)(h:i<l.length):(l.set i v).getD j d=if j=i then v else l.getD j d:=by
 simp only[Ae,Et];by_cases q:j=i
 ·subst q;simp[h]
 ·rw[Ab (Ne.symm q),Ab q]
def Rep.put (h:Rep nb sz s t){x:Int}{v:UInt64}{i:Nat}{f:Bool}{l:List (Int×Int)}(hx:x<64):Rep nb sz ⟨i,f,Fb s.r x v,s.bufs,l⟩ (Ja t x v):=by
 unfold Fb Ja;split
 ·refine⟨by simpa using h.rl,fun y hy=>?_,h.bl,h.len,h.m⟩;show (s.r.set x.toNat v).getD y 0=if y=x.toNat then v else t.r y
  rw[S1 _ _ _ _ _ (by rw[h.rl];omega)];split
  ·rfl
  ·exact h.r y hy
 ·exact⟨h.rl,h.r,h.bl,h.len,h.m⟩
def Rep.ctl (h:Rep nb sz s t){i:Nat}{f:Bool}{l:List (Int×Int)}:Rep nb sz ⟨i,f,s.r,s.bufs,l⟩ t:=⟨h.rl,h.r,h.bl,h.len,h.m⟩
def Rep.sto (h:Rep nb sz s t){b n:Nat}{v:UInt64}{i:Nat}{f:Bool}{l:List (Int×Int)}(hb:b<nb)(hn:n<sz b):Rep nb sz ⟨i,f,s.r,s.bufs.set b ((s.bufs.getD b []).set n v),l⟩ (t.sto b n v):=by
 have aa:b<s.bufs.length:=by rw[h.bl];exact hb
 refine⟨h.rl,h.r,by simpa using h.bl,fun x hx=>?_,fun x y hx hy=>?_⟩
 ·show ((s.bufs.set b _).getD x []).length=_;rw[S1 _ _ _ _ _ aa];split
  ·rename_i q;subst q;rw[Ce];exact h.len x hx
  ·exact h.len x hx
 ·show ((s.bufs.set b _).getD x []).getD y 0=if x=b∧y=n then v else t.m x y
  rw[S1 _ _ _ _ _ aa];by_cases q:x=b
  ·subst q;rw[Ai rfl,S1 _ _ _ _ _ (by rw[h.len x hx];exact hn)];by_cases q2:y=n
   ·simp[q2]
   ·simp only[q2,and_false,Dp];exact h.m x y hx hy
  ·simp only[q,false_and,Dp];exact h.m x y hx hy
end rep
def zh5 {os:List Lo}{es:List Int}:∀(n k:Nat) (s a:Ms),Ho os es n s=some a→Ho os es (n+k) s=Ho os es k a
 |0,k,s,a,h=>by cases h;rw[Bd]
 |n+1,k,s,a,h=>by
  unfold Ho at h;split at h
  ·cases h
  ·rename_i s1 d;rw[show n+1+k=(n+k)+1 by omega];show (match Jc os es s with|none=>none|some a=>Ho os es (n+k) a)=_;rw[d];exact zh5 n k s1 a h
def tl {nb:Nat}{sz:Nat→Nat}{s:Ms}{t r:Fs}{o:Lo}(h:Rep nb sz s t)(hd:o.d<64)(he:o.e<64)(w:o.a<64)(y:o.b<64)(z:o.c<64)(a:o.buf.toNat<nb)(g:Ih sz o t=some r) :
  ∃p,M3 o s=some p∧p.i=s.i+1∧p.first=s.first∧Rep nb sz p r∧p.l.length=s.l.length+1:=by
 unfold Ih at g;unfold M3;rw[h.at w,h.at y,h.at z];unfold Md;have A:o.buf.toNat<s.bufs.length:=by rw[h.bl];exact a
 split at g
 ·rename_i j;rw[Ai j,h.len _ a];split at g
  ·rename_i d;rw[Ai d];cases g;refine⟨_,rfl,rfl,rfl,?_,by simp⟩;rw[h.m _ _ a d];have q:=h.put (x:=o.d) (v:=t.m o.buf.toNat (o.imm+Kw t o.a).toNat) (i:=0) (f:=true) (l:=[]) hd;exact q.put he
  ·cases g
 ·rename_i j;rw[Ab j];split at g
  ·rename_i m;rw[Ai m,h.len _ a];split at g
   ·rename_i d;rw[Ai d];cases g;refine⟨_,rfl,rfl,rfl,?_,by simp⟩;have B:=h.sto (v:=Kw t o.b) (i:=0) (f:=true) (l:=[]) a d;have q:=B.put (x:=o.d) (v:=0) (i:=0) (f:=true) (l:=[]) hd;exact q.put he
   ·cases g
  ·rename_i m;rw[Ab m];cases g;refine⟨_,rfl,rfl,rfl,?_,by simp⟩;have q:=h.put (x:=o.d) (v:=(Fv o (Kw t o.a) (Kw t o.b) (decide (Kw t o.c%2=1))).1) (i:=0) (f:=true) (l:=[]) hd;exact q.put he
def Fr.costZ:Fr Lo→Nat
 |.nil=>0
 |.op _ r=>1+r.costZ
 |.loop o b _ r=>o.imm.toNat*(b.costZ+2)+r.costZ
def ui {α:Type}{l:List α}{i:Nat}{a:α}{r:List α}(h:l.drop i=a::r):l[i]?=some a∧l.drop (i+1)=r:=by
 have d:=congrArg (fun l=>l[0]?) h;simp at d;refine⟨d,?_⟩;rw[←List.drop_drop,h];rfl
def zq0 {α:Type}{l a r:List α}{i:Nat}(h:l.drop i=a++r):l.drop (i+a.length)=r:=by
 rw[←List.drop_drop,h,List.drop_left]
def ofNat_lt {j:Nat}:(UInt64.ofNat j+1:UInt64)=UInt64.ofNat (j+1):=by
 apply UInt64.toNat.inj;simp
def zgo {os:List Lo}{es:List Int}{nb:Nat}{sz:Nat→Nat}:∀(f:Fr Lo) (i:Nat) (ls:List Nat) (rest:List Lo) (rs:List Int) (s:Ms) (t A:Fs),f.wf Im→f.regs nb ls=true→os.drop i=f.flat++rest→es.drop i=f.ends i++rs→s.i=i→s.first=true→Rep nb sz s t→Lf sz f t=some A →
  ∃n a,Ho os es n s=some a∧a.i=i+f.size∧a.first=true∧Rep nb sz a A∧n≤f.costZ∧a.l.length≤s.l.length+f.costZ
 |.nil,i,ls,rest,rs,s,t,A,_,_,_,_,hi,I,J,g=>by
  cases g;exact⟨0,s,rfl,by simp[Fr.size,hi],I,J,Am _,Am _⟩
 |.op o r,i,ls,rest,rs,s,t,A,hw,B,ho,he,hi,I,J,g=>by
  simp only[Fr.regs,Ac,Xr,Ao,Bm] at B;obtain⟨⟨d1,d2⟩,⟨e1,R⟩,a1,b1,c1,f1,B⟩:=B;have d3:o.d<64:=by rcases d2 with d2|d2<;>omega
  have e3:o.e<64:=by rcases R with R|R<;>omega
  simp only[Fr.flat,Bi] at ho;simp only[Fr.ends,Bi] at he;obtain⟨m,w⟩:=ui ho;obtain⟨S,y⟩:=ui he;unfold Lf at g;split at g
  ·cases g
  rename_i t1 T;obtain⟨s1,q1,q2,q3,q4,q5⟩:=tl J d3 e3 a1 b1 c1 f1 T;obtain⟨n,a,G,H,K,C,p5,U⟩:=zgo r (i+1) ls rest rs s1 t1 A hw.2 B w y (by rw[q2,hi]) (by rw[q3,I]) q4 g;have hk:=hw.1;have d:Jc os es s=some s1:=by
   unfold Jc;rw[hi,m];dsimp only;unfold Im at hk;rw[Ab (fun q=>by simp[q] at hk),Ab (fun q=>by simp[q] at hk)];exact q1
  refine⟨n+1,a,?_,by rw[H];simp[Fr.size];omega,K,C,by simp[Fr.costZ];omega,by simp[Fr.costZ];omega⟩;show (match Jc os es s with|none=>none|some a=>Ho os es n a)=_;rw[d];exact G
 |.loop o b e r,i,ls,rest,rs,s,t,A,hw,B,ho,he,hi,I,J,g=>by
  simp only[Fr.regs,Ac,Xr,Ao,Bm] at B;obtain⟨⟨d1,d2⟩,d0,m1,L,V⟩:=B;have d3:o.d<64:=by rcases d2 with d2|d2<;>omega
  obtain⟨W,X,w3,w4⟩:=hw;have M:o.kind=16:=by unfold Im at W;split at W<;>first|assumption|(split at W<;>omega)
  have Y:e.kind=17:=by
   unfold Im at X;split at X
   ·omega
   ·split at X
    ·assumption
    ·omega
  simp only[Fr.flat,Bi,Br] at ho;simp only[Fr.ends,Bi,Br] at he;obtain⟨m,w⟩:=ui ho;obtain⟨S,y⟩:=ui he;have N:=zq0 w;have O:=zq0 y;rw[Fr.flat_len] at N;rw[Fr.ends_len] at O;obtain⟨Z,aa⟩:=ui N;obtain⟨ad,P⟩:=ui O;have D:(es.getD (i+1+b.size) 0).toNat=i:=by rw[Ae,ad];simp
  unfold Lf at g;split at g
  ·cases g
  rename_i t1 T;have af:=zh4 b (o.d.toNat::ls) (B5 ..) L;have ax:=o.imm.toNat_lt;have round:∀(n j:Nat) (s:Ms) (t:Fs),1≤n→j+n=o.imm.toNat→s.i=i+1→s.first=true→Rep nb sz s (t.put o.d.toNat (UInt64.ofNat j))→We (Lf sz b) o.d.toNat n j t=some t1 →
    ∃k a,Ho os es k s=some a∧a.i=i+b.size+2∧a.first=true∧Rep nb sz a t1∧k≤n*(b.costZ+2) - 1∧a.l.length≤s.l.length+(n*(b.costZ+2) - 1):=by
   intro n
   induction n with
   |zero=>intro j s t h;omega
   |succ n ih =>
    intro j s t _ hj ag ah Q p;unfold We at p;split at p
    ·cases p
    rename_i t2 h2;obtain⟨k,s2,G,H,K,C,p5,U⟩:=zgo b (i+1) (o.d.toNat::ls) _ _ s _ t2 w3 L w y ag ah Q h2;have aj:t2.r o.d.toNat=UInt64.ofNat j:=by
     rw[zvx b _ _ af h2];show (if o.d.toNat=o.d.toNat then _ else _)=_;rw[Ai rfl]
    have ao:atR s2.r o.d=UInt64.ofNat j:=by
     rw[C.at d3];unfold Kw;rw[Ab (by omega),aj]
    have d:Jc os es s2=if UInt64.ofNat j+1<o.imm then some ⟨i,false,Fb s2.r o.d (UInt64.ofNat j+1),s2.bufs,s2.l⟩ else some ⟨s2.i+1,s2.first,s2.r,s2.bufs,s2.l⟩:=by
     unfold Jc;rw[H,Z];dsimp only;rw[Ab (by omega),Ai Y,D,m];dsimp only;rw[ao]
    cases n with
    |zero =>
     have ap:¬(UInt64.ofNat j+1<o.imm):=by
      rw[Cl];have:(UInt64.ofNat j+1:UInt64).toNat=(j+1)%18446744073709551616:=by simp
      rw[this];by_cases q:j+1<18446744073709551616
      ·rw[Be q];omega
      ·omega
     rw[Ab ap] at d;cases p;refine⟨k+1,⟨s2.i+1,s2.first,s2.r,s2.bufs,s2.l⟩,?_,?_,K,C.ctl,by omega,by show s2.l.length≤_;omega⟩
     ·rw[zh5 k 1 s s2 G];show (match Jc os es s2 with|none=>none|some a=>Ho os es 0 a)=_;rw[d];rfl
     ·show s2.i+1=_;rw[H];omega
    |succ n =>
     have aq:UInt64.ofNat j+1<o.imm:=by
      rw[Cl];have:(UInt64.ofNat j+1:UInt64).toNat=(j+1)%18446744073709551616:=by simp
      rw[this,Be (by omega)];omega
     rw[Ai aq] at d;have ar:(UInt64.ofNat j+1:UInt64)=UInt64.ofNat (j+1):=ofNat_lt;have E:Rep nb sz ⟨i+1,true,Fb s2.r o.d (UInt64.ofNat j+1),s2.bufs,s2.l++[((i:Int),-1)]⟩ (t2.put o.d.toNat (UInt64.ofNat (j+1))):=by
      have h:=C.put (x:=o.d) (v:=UInt64.ofNat j+1) (i:=i+1) (f:=true) (l:=s2.l++[((i:Int),-1)]) d3;rw[ar] at h ⊢;unfold Ja at h;rw[Ai d0] at h;exact h
     obtain⟨z,s3,u1,u2,u3,u4,u5,u6⟩:=ih (j+1) _ t2 (by omega) (by omega) rfl rfl E p;have hm:(n+1+1)*(b.costZ+2)=(n+1)*(b.costZ+2)+(b.costZ+2):=D5 _ _;have ay:b.costZ+2≤(n+1)*(b.costZ+2):=D6 _ (by omega);refine⟨k+(z+2),s3,?_,u2,u3,u4,by omega,?_⟩
     ·rw[zh5 k _ s s2 G];show (match Jc os es s2 with|none=>none|some a=>Ho os es (z+1) a)=_;rw[d];show (match Jc os es (⟨i,false,Fb s2.r o.d (UInt64.ofNat j+1),s2.bufs,s2.l⟩:Ms) with|none=>none|some a=>Ho os es z a)=_;have:Jc os es (⟨i,false,Fb s2.r o.d (UInt64.ofNat j+1),s2.bufs,s2.l⟩:Ms)=some ⟨i+1,true,Fb s2.r o.d (UInt64.ofNat j+1),s2.bufs,s2.l++[((i:Int),-1)]⟩:=by
       unfold Jc;dsimp only;rw[m];dsimp only;rw[Ai M];rfl
      rw[this];exact u1
     ·simp only[Aj,Ar,Bc] at u6;omega
  have F:Rep nb sz ⟨i+1,true,Fb s.r o.d 0,s.bufs,s.l++[((i:Int),-1)]⟩ (t.put o.d.toNat (UInt64.ofNat 0)):=by
   have h:=J.put (x:=o.d) (v:=0) (i:=i+1) (f:=true) (l:=s.l++[((i:Int),-1)]) d3;unfold Ja at h;rw[Ai d0] at h;exact h
  obtain⟨k,s1,G,H,K,C,p5,U⟩:=round o.imm.toNat 0 _ t m1 (by omega) rfl rfl F T;have aw:b.costZ+2≤o.imm.toNat*(b.costZ+2):=D6 _ (by omega);obtain⟨z,s2,u1,u2,u3,u4,u5,u6⟩:=zgo r (i+b.size+2) ls rest rs s1 t1 A w4 V (by rw[show i+b.size+2=i+1+b.size+1 by omega];exact aa) (by rw[show i+b.size+2=i+1+b.size+1 by omega] at P ⊢;exact P) H K C g;refine⟨(k+z)+1,s2,?_,by rw[u2];simp[Fr.size];omega,u3,u4,by simp only[Fr.costZ];omega,?_⟩
  ·show (match Jc os es s with|none=>none|some a=>Ho os es (k+z) a)=_;have:Jc os es s=some ⟨i+1,true,Fb s.r o.d 0,s.bufs,s.l++[((i:Int),-1)]⟩:=by
    unfold Jc;rw[hi,m];dsimp only;rw[Ai M,I];rfl
   rw[this];show Ho os es (k+z) _=_;rw[zh5 k z _ s1 G];exact u1
  ·simp only[Aj,Ar,Bc] at U;simp only[Fr.costZ];omega
end Go.Sv
namespace Go.Sv
def Nm:Nat→List Nat→List Int→List Lo→List Int
 |_,_,out,[]=>out
 |i,st,out,o::l=>if o.kind=16 then Nm (i+1) (i::st) (out.set i (-1)) l
  else if o.kind=17 then (match st with
   |[]=>Nm (i+1) [] (out.set i (-1)) l
   |a::d=>Nm (i+1) d (((out.set i (-1)).set i a).set a i) l)
  else Nm (i+1) st (out.set i (-1)) l
def endsR_tree:∀(f:Fr Lo) (i:Nat) (st:List Nat) (out a:List Int) (rest:List Lo),f.wf Im→out.length=i →
  Nm i st (out++List.replicate f.size 0++a) (f.flat++rest)=Nm (i+f.size) st (out++f.ends i++a) rest
 |.nil,i,st,out,a,rest,_,_=>by simp[Fr.flat,Fr.size,Fr.ends]
 |.op o r,i,st,out,a,rest,w,g=>by
  have h:=endsR_tree r (i+1) st (out++[-1]) a rest w.2 (by simp[g]);have hk:=w.1;have y:¬o.kind=16:=fun q=>by simp[Im,q] at hk
  have z:¬o.kind=17:=fun q=>by simp[Im,q] at hk
  simp only[Fr.flat,Fr.size,Fr.ends,Bi,Nm,y,z,Dp,Db];simp only[Br,Bi,D0] at h ⊢;rw[Dr _ _ (by omega),show i - out.length=0 by omega,Er,h]
  congr 1;omega
 |.loop o b e r,i,st,out,a,rest,w,g=>by
  obtain⟨j,l,A,B⟩:=w;have m:o.kind=16:=by unfold Im at j;split at j<;>first|assumption|(split at j<;>omega)
  have p:e.kind=17:=by
   unfold Im at l;split at l
   ·omega
   ·split at l
    ·assumption
    ·omega
  have s:=endsR_tree b (i+1) (i::st) (out++[-1]) ([0]++List.replicate r.size 0++a) (e::(r.flat++rest)) A (by simp[g]);have x:=endsR_tree r (i+b.size+2) st (out++[((i+b.size+1:Nat):Int)]++b.ends (i+1)++[(i:Int)]) a rest B (by simp[g,Fr.ends_len];omega);have C:List.replicate (b.size+r.size+2) (0:Int)=[0]++List.replicate b.size 0++([0]++List.replicate r.size 0):=by
   rw[show b.size+r.size+2=1+b.size+(1+r.size) by omega,←D9,←D9,←D9];rfl
  simp only[Fr.flat,Fr.size,Bi,Nm,m,Bu];rw[C];simp only[Br,Bi,D0] at s x ⊢;rw[Dr _ _ (by omega),show i - out.length=0 by omega,Er,s];simp only[Nm,p];have d:(((out++(-1:Int)::(b.ends (i+1)++(0:Int)::(List.replicate r.size 0++a))).set (i+1+b.size) (-1)).set (i+1+b.size) (i:Int)).set i ((i+1+b.size:Nat):Int)
    = out++((i+b.size+1:Nat):Int)::(b.ends (i+1)++(i:Int)::(List.replicate r.size 0++a)):=by
   rw[List.set_set,Dr _ _ (by omega),Dr _ _ (by omega),show i+1+b.size - out.length=b.size+1 by omega,show i - out.length=0 by omega,List.set_cons_succ,Er,
    Dr _ _ (by rw[Fr.ends_len];exact Am _),Fr.ends_len,Ej,Er,show i+1+b.size=i+b.size+1 by omega]
  rw[d,show i+1+b.size+1=i+b.size+2 by omega,x];simp only[Fr.ends,Bi,Br];rw[show i+(b.size+r.size+2)=i+b.size+2+r.size by omega];simp[Nat.add_comm]
def zv8 {f:Fr Lo}(w:f.wf Im):Nm 0 [] (List.replicate f.size 0) f.flat=f.ends 0:=by
 have h:=endsR_tree f 0 [] [] [] [] w rfl;simp only[Bx,D0,Nm] at h;exact h
def Ws {f:Fr Lo}:∀{d:Nat} {rest:List Lo},f.wf Im→Ow Im d rest→Ow Im d (f.flat++rest):=by
 induction f with
 |nil=>intro d rest _ h;exact h
 |op o r j =>
  intro d rest w h;simp only[Fr.flat,Bi];unfold Ow;rw[w.1,Ab (by decide),Ab (by decide)];exact⟨rfl,j w.2 h⟩
 |loop o b e r a g =>
  intro d rest w h;obtain⟨l,m,p,q⟩:=w;simp only[Fr.flat,Bi,Br];unfold Ow;rw[l,Ai rfl];refine a p ?_;unfold Ow;rw[m,Ab (by decide),Ai rfl];exact⟨by omega,g q h⟩
def endsR_len:∀(l:List Lo) (i:Nat) (st:List Nat) (out:List Int),(Nm i st out l).length=out.length
 |[],_,_,_=>rfl
 |o::l,i,st,out=>by
  unfold Nm;split
  ·rw[endsR_len];simp
  ·split
   ·split<;>rw[endsR_len]<;>simp
   ·rw[endsR_len];simp
def N9:List (Int×Int)→Int→List Lo→Int
 |_,s,[]=>s
 |st,s,o::l=>if o.kind=16 then N9 ((s,(o.imm.toNat:Int))::st) 1 l
  else if o.kind=17 then (match st with
   |[]=>N9 [] s l
   |(s0,t)::a=>N9 a (min 1125899906842624 ((if 1125899906842624/t<s then 1125899906842624 else s*t)+s0)) l)
  else N9 st (min 1125899906842624 (s+1)) l
def Fr.stp:Fr Lo→Nat
 |.nil=>0
 |.op _ r=>1+r.stp
 |.loop o b _ r=>o.imm.toNat*(1+b.stp)+r.stp
def zr1 {a b:Nat}(h:1≤a):b≤a*b:=D6 _ h
def zgp {nb:Nat}:∀(f:Fr Lo) (ls:List Nat) (st:List (Int×Int)) (s:Nat) (rest:List Lo),f.wf Im→f.regs nb ls=true→s+f.stp≤1125899906842624→N9 st s (f.flat++rest)=N9 st ((s+f.stp:Nat):Int) rest
 |.nil,_,st,s,rest,_,_,_=>by simp[Fr.flat,Fr.stp]
 |.op o r,ls,st,s,rest,w,a,d=>by
  have hk:=w.1;have x:¬o.kind=16:=fun q=>by simp[Im,q] at hk
  have y:¬o.kind=17:=fun q=>by simp[Im,q] at hk
  simp only[Fr.regs,Ac] at a;simp only[Fr.stp] at d ⊢;simp only[Fr.flat,Bi,N9,x,y,Dp];rw[show min (1125899906842624:Int) ((s:Int)+1)=((s+1:Nat):Int) by omega,zgp r ls st (s+1) rest w.2 a.2.2.2.2.2.2 (by omega)]
  congr 1;omega
 |.loop o b e r,ls,st,s,rest,w,a,d=>by
  obtain⟨g,h,z,A⟩:=w;have j:o.kind=16:=by unfold Im at g;split at g<;>first|assumption|(split at g<;>omega)
  have l:e.kind=17:=by
   unfold Im at h;split at h
   ·omega
   ·split at h
    ·assumption
    ·omega
  simp only[Fr.regs,Ac,Ao] at a;obtain⟨_,_,m1,m,p⟩:=a;simp only[Fr.stp] at d ⊢;have hle:=zr1 (b:=1+b.stp) m1;simp only[Fr.flat,Bi,Br,N9,j,Bu];rw[show (1:Int)=((1:Nat):Int) from rfl,zgp b _ _ 1 _ z m (by omega)];simp only[N9,l];rw[Ab (show ¬(17:Int)=16 by decide),Ai trivial];have B:¬(1125899906842624/((o.imm.toNat:Nat):Int)<((1+b.stp:Nat):Int)):=by
   have C:(1+b.stp)*o.imm.toNat≤1125899906842624:=by rw[Bz];omega
   have D:1+b.stp≤1125899906842624/o.imm.toNat:=(Nat.le_div_iff_mul_le m1).2 C;have E:((1125899906842624/o.imm.toNat:Nat):Int)=1125899906842624/((o.imm.toNat:Nat):Int):=by simp
   omega
  rw[Ab B];have hm:(((1+b.stp:Nat):Int)*((o.imm.toNat:Nat):Int))=((o.imm.toNat*(1+b.stp):Nat):Int):=by rw[Bz];simp
  rw[hm,show min (1125899906842624:Int) (((o.imm.toNat*(1+b.stp):Nat):Int)+(s:Int))=((s+o.imm.toNat*(1+b.stp):Nat):Int) by omega,zgp r ls st _ rest A p (by omega)]
  congr 1;omega
def Ts {nb:Nat}{ls:List Nat}{f:Fr Lo}(w:f.wf Im)(a:f.regs nb ls=true)(d:f.stp≤1125899906842624):N9 [] 0 f.flat=f.stp:=by
 have h:=zgp f ls [] 0 [] w a (by omega);simp only[Bx,N9,Bd] at h;exact h
def Nl (b:Bf)(x:List UInt64):List UInt64:=x++List.replicate (b.size.toNat - x.length) 0
def K6 (bs:List Bf)(X:List (List UInt64))(n:Nat):List (List UInt64):=(List.range n).map fun i=>Nl (Fk bs i) (X.getD i [])
def Hy (regs:Int)(bs:List Bf)(X:List (List UInt64)):Ms:=⟨0,true,List.replicate regs.toNat 0,K6 bs X bs.length,[]⟩
def Xl (bs:List Bf)(X:List (List UInt64))(n:Nat):(K6 bs X n).length=n:=by simp[K6]
def zdr (r:List UInt64)(x:Int)(v:UInt64):(Fb r x v).length=r.length:=by unfold Fb;split<;>simp
structure SameLen (s s':Ms):Prop where
 r:s'.r.length=s.r.length
 b:s'.bufs.map List.length=s.bufs.map List.length
 i:s'.i=s.i+1
 l:s'.l.length=s.l.length+1
 f:s'.first=s.first
def ep {o:Lo}{s d:Ms}(h:M3 o s=some d):SameLen s d:=by
 unfold M3 at h;split at h
 ·split at h
  ·cases h;exact⟨by simp[zdr],rfl,rfl,by simp,rfl⟩
  ·cases h
 ·split at h
  ·split at h
   ·rename_i f;cases h;refine⟨by simp[zdr],?_,rfl,by simp,rfl⟩;show (s.bufs.set _ _).map List.length=_;rw[B0,Ce];refine List.ext_getElem? fun j=>?_
    by_cases q:o.buf.toNat=j
    ·subst q;by_cases a:o.buf.toNat<s.bufs.length
     ·rw[Ag (by simpa using a)];simp[Md,Ae,a]
     ·rw[Dh (by simpa using a),Dh (by simpa using a)]
    ·rw[Ad q]
   ·cases h
  ·cases h;exact⟨by simp[zdr],rfl,rfl,by simp,rfl⟩
def zty {os:List Lo}{es:List Int}{s:Ms}(h:os[s.i]?=none):∀n,Ho os es n s=some s
 |0=>rfl
 |n+1=>by
  show (match Jc os es s with|none=>none|some a=>Ho os es n a)=_;have:Jc os es s=some s:=by unfold Jc;rw[h]
  rw[this];exact zty h n
def ends_at:∀(f:Fr Lo) (i j:Nat) (o:Lo),f.wf Im→f.flat[j]?=some o→o.kind=17→∃k p,(f.ends i)[j]?=some ((i+k:Nat):Int)∧f.flat[k]?=some p∧p.kind=16
 |.nil,_,_,_,_,h,_=>by simp[Fr.flat] at h
 |.op a r,i,j,o,w,h,hk=>by
  have s:=w.1;have B:¬a.kind=17:=fun q=>by simp[Im,q] at s
  cases j with
  |zero=>simp[Fr.flat] at h;subst h;exact absurd hk B
  |succ j =>
   simp only[Fr.flat,Av] at h;obtain⟨k,p,g,d,l⟩:=ends_at r (i+1) j o w.2 h hk;exact⟨k+1,p,by simp only[Fr.ends,Av];rw[g];congr 2;omega,by simpa only[Fr.flat,Av] using d,l⟩
 |.loop a b e r,i,j,o,w,h,hk=>by
  obtain⟨x,F,C,D⟩:=w;have y:a.kind=16:=by unfold Im at x;split at x<;>first|assumption|(split at x<;>omega)
  cases j with
  |zero=>simp[Fr.flat] at h;subst h;omega
  |succ j =>
   simp only[Fr.flat,Av] at h;simp only[Fr.ends,Av];by_cases A:j<b.size
   ·rw[Aq (by rw[Fr.flat_len];exact A)] at h;obtain⟨k,p,g,d,l⟩:=ends_at b (i+1) j o C h hk;have z:k<b.size:=by rw[←Fr.flat_len];exact (Aa.1 d).1
    refine⟨k+1,p,?_,?_,l⟩
    ·rw[Aq (by rw[Fr.ends_len];exact A),g];congr 2;omega
    ·simp only[Fr.flat,Av];rw[Aq (by rw[Fr.flat_len];exact z)];exact d
   ·rw[Au (by rw[Fr.flat_len];omega),Fr.flat_len] at h;rw[Au (by rw[Fr.ends_len];omega),Fr.ends_len];cases E:j - b.size with
    |zero =>
     refine⟨0,a,by simp,by simp[Fr.flat],y⟩
    |succ m =>
     rw[E] at h;simp only[Av] at h ⊢;obtain⟨k,p,g,d,l⟩:=ends_at r (i+b.size+2) m o D h hk;refine⟨k+b.size+2,p,by rw[g];congr 2;omega,?_,l⟩;simp only[Fr.flat,Av];rw[Au (by rw[Fr.flat_len];omega),Fr.flat_len,show k+b.size+1 - b.size=k+1 by omega,Av];exact d
end Go.Sv
noncomputable section
namespace Go.Sv
structure Pc where
 buf:Int
 at_:Int
 size:Int
def Pc.f (p:Pc):List LV:=[.i p.buf,.i p.at_,.i p.size]
def cK (d:Int)(n:UInt64):Lo:=⟨1,d,-1,-1,-1,-1,0,n⟩
def Ij (d a:Int):Lo:=⟨2,d,-1,a,-1,-1,0,0⟩
def Ew (k d a b:Int):Lo:=⟨k,d,-1,a,b,-1,0,0⟩
def It (k d a f:Int):Lo:=⟨k,d,-1,a,-1,-1,0,iU f⟩
def Ft (h l a b:Int):Lo:=⟨10,h,l,a,b,-1,0,0⟩
def Fj (k d out a b c:Int):Lo:=⟨k,d,out,a,b,c,0,0⟩
def Fx (d c a b:Int):Lo:=⟨13,d,-1,a,b,c,0,0⟩
def E7 (d:Int)(p:Pc)(i off:Int):Lo:=⟨14,d,-1,i,-1,-1,p.buf,iU (p.at_+off)⟩
def Ff (p:Pc)(i off b:Int):Lo:=⟨15,-1,-1,i,b,-1,p.buf,iU (p.at_+off)⟩
def Ky (d times:Int):Lo:=⟨16,d,-1,-1,-1,-1,0,iU times⟩
def N8:Lo:=⟨17,-1,-1,-1,-1,-1,0,0⟩
def Kp (e:Nat)(G G':Ev):Prop:=G.length≤G'.length∧∀(q:Nat) (ob:LObj),q≠e→(∀R m k st,ob≠LObj.dyn R m 8 k st)→G[q]?=some ob→G'[q]?=some ob
def Kp.refl (e:Nat)(G:Ev):Kp e G G:=⟨Am _,fun _ _ _ _ h=>h⟩
def Kp.trans {e:Nat}{a b c:Ev}(h:Kp e a b)(k:Kp e b c):Kp e a c:=⟨Bo h.1 k.1,fun q ob h1 h2 h3=>k.2 q ob h1 h2 (h.2 q ob h1 h2 h3)⟩
def Kp.cells {e:Nat}{a b:Ev}(h:Kp e a b){q st:Nat}{l:List LV}(hq:q≠e)(hc:a[q]?=some (.cells l st)):b[q]?=some (.cells l st):=h.2 q _ hq (fun _ _ _ _ e=>by cases e) hc
def Kp.app {e:Nat}{a b:Ev}(h:Kp e a b)(x:List LObj):Kp e a (b++x):=⟨by have:=h.1;simp;omega,fun q ob h1 h2 h3=>by have h4:=h.2 q ob h1 h2 h3;rw[E6 (Aa.1 h4).1];exact h4⟩
def Kp.app' (e:Nat)(a:Ev)(x:List LObj):Kp e a (a++x):=(Kp.refl e a).app x
def Fo (G:Ev)(e:Nat)(ops:List Lo)(deep:Int):Prop:=∃(st:Nat) (v:LV),G[e]?=some (.cells [v,.i deep] st)∧H0 0 G v 8 ops.length (Gi ops)
def H0.set_cells {b:Nat}{G:Ev}{v:LV}{esz n:Nat}{l:List LV}(h:H0 b G v esz n l){q st:Nat}{c:List LV}{ob:LObj}(hq:G[q]?=some (.cells c st)):H0 b (G.set q ob) v esz n l:=by
 obtain⟨h1,h2,h|⟨p,k,st,a,e,d⟩⟩:=h
 ·exact⟨h1,h2,.inl h⟩
 ·exact⟨h1,h2,.inr ⟨p,k,st,a,e,by rw[Ad (fun q'=>by rw[q',d] at hq;cases hq)];exact d⟩⟩
def H0.row {b:Nat}{G:Ev}{v:LV}{esz n:Nat}{l:List LV}(h:H0 b G v esz n l){q j:Nat}(e:v=.dy q j):∃R m k st,G[q]?=some (.dyn R m esz k st):=by
 obtain⟨_,_,⟨h,_⟩|⟨p,k,st,_,e2,d⟩⟩:=h
 ·rw[h] at e;cases e
 ·rw[e2] at e;cases e;exact⟨_,_,_,_,d⟩
def Fo.app {G:Ev}{e:Nat}{ops:List Lo}{deep:Int}(h:Fo G e ops deep)(x:List LObj):Fo (G++x) e ops deep:=by
 obtain⟨st,v,h1,h2⟩:=h;exact⟨st,v,by rw[E6 (Aa.1 h1).1];exact h1,h2.push_end⟩
end Go.Sv
end
namespace Go.Sv
section made
variable {wk : Bool → Int} {a b Io : Nat → Int} {sec : Nat → Bool} {done busy : List Nat} {iv : Nat → Hl} {ps : Bool → St} {cur base : Int} {n : Nat}
end made
end Go.Sv
namespace Go.Sv
def X3 {α:Type}(k:α→Int)(l:List α):Prop:=l.Pairwise fun x y=>k x≤k y
section sym
variable {α : Type} {k : α → Int}
def X3.last {l:List α}(h:X3 k l){u z:α}(hu:u∈l)(hz:l.getLast?=some z):k u≤k z:=by
 obtain⟨ys,rfl⟩:=List.getLast?_eq_some_iff.1 hz;have:=List.pairwise_append.1 h;rcases Ay.1 hu with q|q
 ·exact this.2.2 u q z (by simp)
 ·rw[List.mem_singleton.1 q];exact Int.le_refl _
def X3.head {l:List α}(h:X3 k l){u z:α}(hu:u∈l)(hz:l.head?=some z):k z≤k u:=by
 obtain⟨ys,rfl⟩:=List.head?_eq_some_iff.1 hz;have:=List.pairwise_cons.1 h;rcases An.1 hu with q|q
 ·rw[q];exact Int.le_refl _
 ·exact this.1 u q
def zy9 {l:List α}{u:α}(h:u∈l):∃z,l.getLast?=some z:=by
 cases a:l.getLast? with
 |none=>rw[List.getLast?_eq_none_iff] at a;subst a;cases h
 |some z=>exact⟨z,rfl⟩
def zya {l:List α}{u:α}(h:u∈l):∃z,l.head?=some z:=by
 cases l with
 |nil=>cases h
 |cons z t=>exact⟨z,rfl⟩
def halves {f g h j:List α}(l:X3 k (f++g))(m:X3 k (h++j))(o:∀u w,f.getLast?=some u→j.head?=some w→k u≤k w)(p:∀u w,h.getLast?=some u→g.head?=some w→k u≤k w) :
  ∀u∈f++h,∀w∈g++j,k u≤k w:=by
 obtain⟨q,r,s⟩:=List.pairwise_append.1 l;obtain⟨x,A,B⟩:=List.pairwise_append.1 m;intro u hu w hw;rcases Ay.1 hu with hu|hu<;>rcases Ay.1 hw with hw|hw
 ·exact s u hu w hw
 ·obtain⟨z,a⟩:=zy9 hu;obtain⟨y,d⟩:=zya hw;exact Int.le_trans (X3.last q hu a) (Int.le_trans (o z y a d) (X3.head A hw d))
 ·obtain⟨z,a⟩:=zy9 hu;obtain⟨y,d⟩:=zya hw;exact Int.le_trans (X3.last x hu a) (Int.le_trans (p z y a d) (X3.head r hw d))
 ·exact B u hu w hw
end sym
end Go.Sv
namespace Go.Sv
def zyz (vs:List Vr):Ks vs (Nc 0 vs) []=Kj vs:=by
 unfold Ks;cases hv:Kj vs with
 |false=>rfl
 |true =>
  have l:=zh8 hv;have d:=startOs_len vs 0;obtain⟨m,f,o,g⟩:=zeb vs 0 (R4 vs) rfl (by simp[R4]) (fun j a=>by omega) (fun j _ a=>by
   unfold gb R4;rw[Ae,Cc,Nq a];rfl)
  rw[f];have hm:Yy vs m=true:=by
   unfold Yy;rw[Cb];intro i hi;simp[g i (Cp.1 hi)]
  have h:(Nc 0 vs).length≤4096:=by omega
  simp[hm,h]
def H7 (l:List Pc)(n:Nat):Pc:=l.getD n ⟨0,0,0⟩
def Ta (bs:List Bf):Int :=
 if 32<bs.length then 3 else if (bs.any fun b=>decide (65536<b.size))=true then 3 else if (bs.any fun b=>decide (b.size<1) || (decide (b.kind<1) || decide (3<b.kind)))=true then 2 else 0
def Oc (bs:List Bf)(x:Pc):Bool:=decide (0≤x.buf)&&(decide (x.buf<bs.length)&&(decide (1≤x.size)&&(decide (x.size≤32768)&&(decide (0≤x.at_)&&(decide (x.at_≤(Fk bs x.buf.toNat).size)&&decide (x.size≤(Fk bs x.buf.toNat).size - x.at_))))))
def Su (bs:List Bf)(v:Vr)(x:Pc):Bool :=
 Oc bs x&&(decide (x.size=v.limbs)&&(!(decide ((Fk bs x.buf.toNat).kind=1) && !Kc v)&&(!(decide ((Fk bs x.buf.toNat).kind=2)&&Kc v)&&(v.sec==(Fk bs x.buf.toNat).sec))))
def Oh (bs:List Bf)(s:Bool)(x:Pc):Bool:=Oc bs x&&(!decide ((Fk bs x.buf.toNat).kind=1)&&((Fk bs x.buf.toNat).sec==s))
def Nk (vs:List Vr)(bs:List Bf)(a:List Pc)(d f:Pc):Bool :=
 Kj vs&&(decide (1≤bs.length)&&(decide (a.length=vs.length)&&(decide (Ta bs=0)&&(((List.range vs.length).all fun i=>Su bs (gv vs i) (H7 a i))&&(Oh bs false d&&Oh bs true f)))))
def Om (l:List Pc):List LV:=l.flatMap Pc.f
def E4:List Lo→Fr Lo
 |[]=>.nil
 |o::l=>.op o (E4 l)
def Fr.cat {α:Type}:Fr α→Fr α→Fr α
 |.nil,g=>g
 |.op o r,g=>.op o (r.cat g)
 |.loop o b e r,g=>.loop o b e (r.cat g)
def flat_frL:∀l:List Lo,(E4 l).flat=l
 |[]=>rfl
 |o::l=>by rw[E4,Fr.flat,flat_frL l]
def Hi {α:Type}:∀f g:Fr α,(f.cat g).flat=f.flat++g.flat
 |.nil,g=>rfl
 |.op o r,g=>by rw[Fr.cat,Fr.flat,Fr.flat,Hi r g];rfl
 |.loop o b e r,g=>by rw[Fr.cat,Fr.flat,Fr.flat,Hi r g];simp
def frL_app:∀a b:List Lo,E4 (a++b)=(E4 a).cat (E4 b)
 |[],_=>rfl
 |o::a,b=>by rw[Bi,E4,E4,Fr.cat,frL_app a b]
def stp_cat:∀f g:Fr Lo,(f.cat g).stp=f.stp+g.stp
 |.nil,g=>by simp[Fr.cat,Fr.stp]
 |.op o r,g=>by rw[Fr.cat,Fr.stp,Fr.stp,stp_cat r g];omega
 |.loop o b e r,g=>by rw[Fr.cat,Fr.stp,Fr.stp,stp_cat r g];omega
def J4 (l:List Lo):(E4 l).stp=l.length:=by
 induction l with
 |nil=>rfl
 |cons o l a=>rw[E4,Fr.stp,a,Ar];omega
section ex
variable {sz : Nat → Nat} {s : Fs}
def exZ_cat:∀(f g:Fr Lo) (s:Fs),Lf sz (f.cat g) s=(Lf sz f s).bind (Lf sz g)
 |.nil,g,s=>rfl
 |.op o r,g,s=>by
  rw[Fr.cat,Lf,Lf];cases Ih sz o s with
  |none=>rfl
  |some a=>exact exZ_cat r g a
 |.loop o b e r,g,s=>by
  rw[Fr.cat,Lf,Lf];cases We (Lf sz b) o.d.toNat o.imm.toNat 0 s with
  |none=>rfl
  |some a=>exact exZ_cat r g a
def Tx (sz:Nat→Nat)(f:Fr Lo)(s:Fs)(Q:Fs→Prop):Prop:=∃a,Lf sz f s=some a∧Q a
def Tx.nil {Q:Fs→Prop}(h:Q s):Tx sz .nil s Q:=⟨s,rfl,h⟩
def Tx.op {o:Lo}{r:Fr Lo}{s1:Fs}{Q:Fs→Prop}(h:Ih sz o s=some s1)(k:Tx sz r s1 Q):Tx sz (.op o r) s Q:=by
 obtain⟨s',h1,h2⟩:=k;exact⟨s',by rw[Lf,h];exact h1,h2⟩
def Tx.cat {f g:Fr Lo}{Q R:Fs→Prop}(h:Tx sz f s R)(k:∀s',R s'→Tx sz g s' Q):Tx sz (f.cat g) s Q:=by
 obtain⟨s1,h1,h2⟩:=h;obtain⟨s2,h3,h4⟩:=k s1 h2;exact⟨s2,by rw[exZ_cat,h1];exact h3,h4⟩
def Tx.mono {f:Fr Lo}{Q R:Fs→Prop}(h:Tx sz f s R)(k:∀s',R s'→Q s'):Tx sz f s Q:=by
 obtain⟨s1,h1,h2⟩:=h;exact⟨s1,h1,k s1 h2⟩
def gu {f:Fs→Option Fs}{d:Nat}{I:Nat→Fs→Prop}:∀(n j:Nat) (s:Fs),I j s→(∀i s,i<j+n→I i s→∃a,f (s.put d (UInt64.ofNat i))=some a∧I (i+1) a)→∃a,We f d n j s=some a∧I (j+n) a
 |0,j,s,h,_=>⟨s,rfl,h⟩
 |n+1,j,s,h,k=>by
  obtain⟨s1,g,l⟩:=k j s (by omega) h;obtain⟨s2,m,o⟩:=gu n (j+1) s1 l fun i s hi p=>k i s (by omega) p
  refine⟨s2,?_,by rw[show j+(n+1)=j+1+n by omega];exact o⟩;show (match f (s.put d (UInt64.ofNat j)) with|none=>none|some a=>We f d n (j+1) a)=_;rw[g];exact m
def Tx.loop {o e:Lo}{b r:Fr Lo}{Q:Fs→Prop}(I:Nat→Fs→Prop)(h0:I 0 s)(h1:∀i s,i<o.imm.toNat→I i s→Tx sz b (s.put o.d.toNat (UInt64.ofNat i)) (I (i+1)))(h2:∀s',I o.imm.toNat s'→Tx sz r s' Q):Tx sz (.loop o b e r) s Q:=by
 obtain⟨s1,h3,h4⟩:=gu o.imm.toNat 0 s h0 fun i s hi hI=>h1 i s (by omega) hI
 rw[Bd] at h4;obtain⟨s2,h5,h6⟩:=h2 s1 h4;exact⟨s2,by rw[Lf,h3];exact h5,h6⟩
def Q9 (s:Fs)(d:Nat)(v:UInt64):Ja s (d:Int) v=s.put d v:=by unfold Ja;rw[Ai (by omega)];rfl
def Rm (s:Fs)(v:UInt64):Ja s (-1) v=s:=by unfold Ja;rw[Ab (by omega)]
def Q5 (s:Fs)(d:Nat):Kw s (d:Int)=s.r d:=by unfold Kw;rw[Ab (by omega)];rfl
def Uu (s:Fs):Kw s (-1)=0:=by unfold Kw;rw[Ai (by omega)]
def N0 {d:Nat}{v:UInt64}:Ih sz (cK d v) s=some (s.put d v):=by simp[Ih,cK,Fv,Q9,Rm]
def ud {d a:Nat}:Ih sz (Ij d a) s=some (s.put d (s.r a)):=by simp[Ih,Ij,Fv,Q9,Rm,Q5]
def sh {d a b:Nat}:Ih sz (Ew 3 d a b) s=some (s.put d (s.r a+s.r b)):=by simp[Ih,Ew,Fv,Q9,Rm,Q5]
def Rc {d a b:Nat}:Ih sz (Ew 4 d a b) s=some (s.put d (s.r a - s.r b)):=by simp[Ih,Ew,Fv,Q9,Rm,Q5]
def zw9 {d a b:Nat}:Ih sz (Ew 6 d a b) s=some (s.put d (s.r a ||| s.r b)):=by simp[Ih,Ew,Fv,Q9,Rm,Q5]
def zx9 {d a b:Nat}:Ih sz (Ew 7 d a b) s=some (s.put d (s.r a ^^^ s.r b)):=by simp[Ih,Ew,Fv,Q9,Rm,Q5]
def xe {h l a b:Nat}:Ih sz (Ft h l a b) s=some ((s.put h (Sl (s.r a) (s.r b))).put l (s.r a*s.r b)):=by simp[Ih,Ft,Fv,Q9,Q5]
def zra {d e a b c:Nat}:Ih sz (Fj 11 d e a b c) s=some ((s.put d (Iy (s.r a) (s.r b) (decide (s.r c%2=1))).1).put e (F2 (Iy (s.r a) (s.r b) (decide (s.r c%2=1))).2)):=by simp[Ih,Fj,Fv,Q9,Q5]
def zg {d e a b c:Nat}:Ih sz (Fj 12 d e a b c) s=some ((s.put d (Gx (s.r a) (s.r b) (decide (s.r c%2=1))).1).put e (F2 (Gx (s.r a) (s.r b) (decide (s.r c%2=1))).2)):=by simp[Ih,Fj,Fv,Q9,Q5]
def zm5 {d c a b:Nat}:Ih sz (Fx d c a b) s=some (s.put d (if s.r c%2=1 then s.r a else s.r b)):=by
 simp[Ih,Fx,Fv,Q9,Rm,Q5]
def ns {d i:Nat}{p:Pc}{off:Int}{b n:Nat}(f:p.buf=(b:Int))(g:(iU (p.at_+off)+s.r i).toNat=n)(a:n<sz b):Ih sz (E7 d p i off) s=some (s.put d (s.m b n)):=by
 simp[Ih,E7,Q9,Rm,Q5,f,g,a]
def bw {d:Nat}{p:Pc}{off:Int}{b n:Nat}(f:p.buf=(b:Int))(g:(iU (p.at_+off)).toNat=n)(a:n<sz b):Ih sz (E7 d p (-1) off) s=some (s.put d (s.m b n)):=by
 simp[Ih,E7,Q9,Rm,Uu,f,g,a]
def mz {v i:Nat}{p:Pc}{off:Int}{b n:Nat}(d:p.buf=(b:Int))(f:(iU (p.at_+off)+s.r i).toNat=n)(a:n<sz b):Ih sz (Ff p i off v) s=some (s.sto b n (s.r v)):=by
 simp[Ih,Ff,Rm,Q5,d,f,a]
def Z1 {v:Nat}{p:Pc}{off:Int}{b n:Nat}(d:p.buf=(b:Int))(f:(iU (p.at_+off)).toNat=n)(a:n<sz b):Ih sz (Ff p (-1) off v) s=some (s.sto b n (s.r v)):=by
 simp[Ih,Ff,Rm,Uu,Q5,d,f,a]
end ex
def Ez (s:Fs)(d x:Nat)(v:UInt64):(s.put d v).r x=if x=d then v else s.r x:=rfl
def Gy (s:Fs)(d:Nat)(v:UInt64):(s.put d v).m=s.m:=rfl
def Kd (s:Fs)(b n:Nat)(v:UInt64):(s.sto b n v).r=s.r:=rfl
def Qy (s:Fs)(b n x y:Nat)(v:UInt64):(s.sto b n v).m x y=if x=b∧y=n then v else s.m x y:=rfl
def Kh (s:Ms):Fs:=⟨fun x=>s.r.getD x 0,fun b n=>(s.bufs.getD b []).getD n 0⟩
def Yj (s:Ms):Nat→Nat:=fun b=>(s.bufs.getD b []).length
def Rep.abs (s:Ms)(h:s.r.length=64):Rep s.bufs.length (Yj s) s (Kh s):=⟨h,fun _ _=>rfl,rfl,fun _ _=>rfl,fun _ _ _ _=>rfl⟩
end Go.Sv
namespace Go.Sv
def zgt {regs:Int}{bs:List Bf}{d:Int}{v:UInt64}(h:0≤d∧d<regs):Ib regs bs (cK d v)=true:=by
 simp[Ib,cK,Fh,Gj,Gh,Gr,Jg,Jl,Gf,h]
def zwi {regs:Int}{bs:List Bf}{d a:Int}(h:0≤d∧d<regs)(f:0≤a∧a<regs):Ib regs bs (Ij d a)=true:=by
 simp[Ib,Ij,Fh,Gj,Gh,Gr,Jg,Jl,Gf,h,f]
def zbt {regs:Int}{bs:List Bf}{k d a b:Int}(hk:3≤k∧k≤7)(h:0≤d∧d<regs)(f:0≤a∧a<regs)(g:0≤b∧b<regs):Ib regs bs (Ew k d a b)=true:=by
 have j:k=3∨k=4∨k=5∨k=6∨k=7:=by omega
 rcases j with rfl|rfl|rfl|rfl|rfl<;>simp[Ib,Ew,Fh,Gj,Gh,Gr,Jg,Jl,Gf,h,f,g]
def zbz {regs:Int}{bs:List Bf}{d e a b:Int}(h:0≤d∧d<regs)(he:0≤e∧e<regs)(f:0≤a∧a<regs)(g:0≤b∧b<regs)(j:d≠e):Ib regs bs (Ft d e a b)=true:=by
 simp[Ib,Ft,Fh,Gj,Gh,Gr,Jg,Jl,Gf,h,f,g,he,j]
def zua {regs:Int}{bs:List Bf}{k d e a b c:Int}(hk:k=11∨k=12)(h:0≤d∧d<regs)(he:0≤e∧e<regs)(f:0≤a∧a<regs)(g:0≤b∧b<regs)(j:0≤c∧c<regs)(l:d≠e):Ib regs bs (Fj k d e a b c)=true:=by
 rcases hk with rfl|rfl<;>simp[Ib,Fj,Fh,Gj,Gh,Gr,Jg,Jl,Gf,h,f,g,j,he,l]
def zu6 {regs:Int}{bs:List Bf}{d c a b:Int}(h:0≤d∧d<regs)(f:0≤c∧c<regs)(g:0≤a∧a<regs)(j:0≤b∧b<regs):Ib regs bs (Fx d c a b)=true:=by
 simp[Ib,Fx,Fh,Gj,Gh,Gr,Jg,Jl,Gf,h,g,j,f]
def zn4 {regs:Int}{bs:List Bf}{d i off:Int}{p:Pc}(h:0≤d∧d<regs)(hi:i=-1∨0≤i∧i<regs)(a:0≤p.buf∧p.buf<bs.length)(hm:i=-1→iU (p.at_+off)<iU (Fk bs p.buf.toNat).size):Ib regs bs (E7 d p i off)=true:=by
 rcases hi with rfl|hi
 ·simp[Ib,E7,Fh,Gj,Gh,Gr,Jg,Jl,Gf,h,a,hm rfl]
 ·have:i≠-1:=by omega
  simp[Ib,E7,Fh,Gj,Gh,Gr,Jg,Jl,Gf,h,a,hi,this]
def zon {regs:Int}{bs:List Bf}{v i off:Int}{p:Pc}(h:0≤v∧v<regs)(hi:i=-1∨0≤i∧i<regs)(a:0≤p.buf∧p.buf<bs.length)(hk:(Fk bs p.buf.toNat).kind≠1)(hm:i=-1→iU (p.at_+off)<iU (Fk bs p.buf.toNat).size):Ib regs bs (Ff p i off v)=true:=by
 rcases hi with rfl|hi
 ·simp[Ib,Ff,Fh,Gj,Gh,Gr,Jg,Jl,Gf,h,a,hm rfl,hk]
 ·have:i≠-1:=by omega
  simp[Ib,Ff,Fh,Gj,Gh,Gr,Jg,Jl,Gf,h,a,hi,this,hk]
def Hd (regs:Int)(bs:List Bf):List Int→List Lo→Prop
 |_,[]=>True
 |S,o::l=>Ib regs bs o=true∧(o.kind≠16∧o.kind≠17)∧(∀x∈Ht o,x∈S)∧Hd regs bs (E8 o++S) l
def zlh {regs:Int}{bs:List Bf}:∀{l:List Lo} {S S':List Int},(∀x∈S,x∈S')→Hd regs bs S l→Hd regs bs S' l
 |[],_,_,_,_=>trivial
 |o::l,S,S',h,k=>⟨k.1,k.2.1,fun x a=>h x (k.2.2.1 x a),zlh (fun x a=>by
   rcases Ay.1 a with a|a
   ·exact Dk _ a
   ·exact Ba _ (h x a)) k.2.2.2⟩
def zqt {regs:Int}{bs:List Bf}:∀{a b:List Lo} {S:List Int},Hd regs bs S a→Hd regs bs ((a.flatMap E8)++S) b→Hd regs bs S (a++b)
 |[],b,S,_,k=>by simpa using k
 |o::a,b,S,h,k=>⟨h.1,h.2.1,h.2.2.1,zqt h.2.2.2 (zlh (fun x d=>by
   simp only[Ds,Ay] at d ⊢;rcases d with (d|d)|d
   ·exact .inr (.inl d)
   ·exact .inl d
   ·exact .inr (.inr d)) k)⟩
def ztr {regs:Int}{bs:List Bf}{a b:List Lo}{S:List Int}(h:Hd regs bs S a)(k:Hd regs bs S b):Hd regs bs S (a++b) :=
 zqt h (zlh (fun _ d=>Ba _ d) k)
def Tg (regs:Int)(m:List Bool)(S:List Int):Prop:=(m.length:Int)=regs∧∀x∈S,0≤x∧x<regs∧I0 m x=true
def um {m:List Bool}{a x:Int}(d:0≤a∧a<m.length)(f:0≤x):I0 (m.set a.toNat true) x=true↔x=a∨I0 m x=true:=by
 unfold I0;rw[S1 _ _ _ _ _ (by omega)];by_cases e:x.toNat=a.toNat
 ·rw[Ai e];simp;left;omega
 ·rw[Ab e];constructor
  ·exact .inr
  ·rintro (rfl|h)
   ·exact absurd rfl e
   ·exact h
def Tg.fold {regs:Int}:∀(mk:List Int) (m:List Bool) (S:List Int),Tg regs m S→(∀x∈mk,0≤x∧x<regs)→Tg regs (mk.foldl (fun m r=>m.set r.toNat true) m) (mk++S)
 |[],_,_,h,_=>h
 |a::mk,m,S,h,hr=>by
  have ha:=hr a (B5 ..);have h1:Tg regs (m.set a.toNat true) (a::S):=by
   refine⟨by simpa using h.1,fun x hx=>?_⟩;rcases An.1 hx with rfl|hx
   ·exact⟨ha.1,ha.2,(um ⟨ha.1,by rw[h.1];exact ha.2⟩ ha.1).2 (.inl rfl)⟩
   ·obtain⟨h1,h2,h3⟩:=h.2 x hx;exact⟨h1,h2,(um ⟨ha.1,by rw[h.1];exact ha.2⟩ h1).2 (.inr h3)⟩
  have h2:=Tg.fold mk _ _ h1 fun x hx=>hr x (Az _ hx)
  refine⟨h2.1,fun x hx=>h2.2 x ?_⟩;simp only[Ay,An] at hx ⊢;rcases hx with (hx|hx)|hx
  ·exact .inr (.inl hx)
  ·exact .inl hx
  ·exact .inr (.inr hx)
def Uw {regs:Int}{bs:List Bf}{m:List Bool}{ls:List Int}{o:Lo}(g:Ib regs bs o=true)(a:o.kind≠16)(d:o.kind≠17)(hm:∀x∈E8 o,¬x∈ls)(j:∀x∈Ht o,I0 m x=true) :
  M5 regs bs m ls o=(0,(E8 o).foldl (fun m r=>m.set r.toNat true) m,ls):=by
 unfold M5;rw[Ab (by rw[g];decide),Ab d,Ab,Ab (fun q=>a q.1),Ab (fun q=>a q.1),Ab,Ab a]
 ·rw[Bv];rintro⟨x,f,h⟩;rw[j x f] at h;cases h
 ·rw[Bv];rintro⟨x,f,h⟩;exact hm x f (by simpa using h)
def Tz {regs:Int}{bs:List Bf}{o:Lo}(h:Ib regs bs o=true):∀x∈E8 o,0≤x∧x<regs:=by
 unfold Ib at h;simp only[Ac,Ao] at h;obtain⟨⟨f,g⟩,d,e,_⟩:=h;have f1:∀{x:Int},Fh regs x true=true→0≤x∧x<regs:=fun h=>by unfold Fh at h;simpa using h
 intro x a;unfold E8 at a;split at a
 ·rename_i hk;have hd:Gj o.kind=true:=by rcases hk with h|h|h<;>rw[h]<;>rfl
  have he:Gh o.kind=true:=by rcases hk with h|h|h<;>rw[h]<;>rfl
  rw[hd] at d;rw[he] at e;simp at a;rcases a with rfl|rfl
  ·exact f1 d
  ·exact f1 e
 ·split at a
  ·cases a
  ·rename_i hk;have hd:Gj o.kind=true:=by simp[Gj];omega
   rw[hd] at d;simp at a;subst a;exact f1 d
def Sx (n r:Int):List Lo:=[cK (r+3) 3,Ft (r+1) r n (r+3),cK (r+3) 2,Ew 7 r r (r+3)]
def jt (n r:Int):List Lo:=[Ft (r+1) (r+2) n r,Ew 4 (r+2) (r+3) (r+2),Ft (r+1) r r (r+2)]
def Pu (n r:Int)(i:Nat):List Lo:=(List.range i).flatMap fun _=>jt n r
def zcc (n r:Int)(i:Nat):Pu n r (i+1)=Pu n r i++jt n r:=by simp[Pu,List.range_succ]
def zhw (n r:Int)(i:Nat):(Pu n r i).length=3*i:=by
 induction i with
 |zero=>rfl
 |succ i a=>rw[zcc,Aj,a];simp[jt];omega
def Mi (n r:Int):List Lo:=Sx n r++(Pu n r 5++[cK (r+3) 0,Ew 4 r (r+3) r])
def xor2 (x:Nat):x ^^^ 2=if x%4<2 then x+2 else x - 2:=by
 have j:(x ^^^ 2)/4=x/4:=by
  have:=Nat.xor_div_two_pow (a:=x) (b:=2) (n:=2);simpa using this
 have d:(x ^^^ 2)%4=(x%4) ^^^ 2:=by
  have:=Nat.xor_mod_two_pow (a:=x) (b:=2) (n:=2);simpa using this
 have f:x%4<4:=Df _ (by decide);have h:(x%4) ^^^ 2=if x%4<2 then x%4+2 else x%4 - 2:=by
  generalize x%4=c at f ⊢
  match c,f with
  |0,_=>rfl
  |1,_=>rfl
  |2,_=>rfl
  |3,_=>rfl
 rw[h] at d;split at d<;>rename_i g
 ·rw[Ai g];omega
 ·rw[Ab g];omega
def W7 (k c:Nat)(d:c%2=1):∃t,k*(3*k+c)=2*t:=by
 have h:k*(3*k+c)%2=0:=by
  have a:k%2=0∨k%2=1:=by omega
  rw[B1,Nat.add_mod,B1 3 k];rcases a with a|a<;>simp[a,d]
 exact⟨k*(3*k+c)/2,by omega⟩
def yt (a:UInt64)(h:a%2=1):∃t:UInt64,a*((a*3) ^^^ 2)=1+32*t:=by
 have r:a.toNat%2=1:=by
  have:=congrArg UInt64.toNat h;simpa using this
 have d:((a*3) ^^^ 2:UInt64).toNat=(a.toNat*3%18446744073709551616) ^^^ 2:=by simp
 rw[xor2] at d;have o:a.toNat*3%18446744073709551616<18446744073709551616:=Df _ (by decide);obtain⟨k,hk⟩:∃k,a.toNat=4*k+a.toNat%4:=⟨a.toNat/4,by omega⟩;have p:a.toNat*3%18446744073709551616%4=a.toNat*3%4:=Nat.mod_mod_of_dvd _ (by decide);have j:a=UInt64.ofNat a.toNat:=by simp
 have g:a.toNat%4=1∨a.toNat%4=3:=by omega
 rcases g with g|g
 ·rw[Ab (by omega)] at d;have f:(a*3) ^^^ 2=a*3 - 2:=by
   apply UInt64.toNat.inj;rw[d,Dv];simp;omega
  obtain⟨t,l⟩:=W7 k 1 rfl;have q:a=4*UInt64.ofNat k+1:=by rw[j,hk,g];simp
  have m:UInt64.ofNat k*(3*UInt64.ofNat k+1)=2*UInt64.ofNat t:=by
   have:=congrArg UInt64.ofNat l;simpa using this
  refine⟨UInt64.ofNat t,?_⟩;rw[f];generalize UInt64.ofNat k=b at *;generalize UInt64.ofNat t=u at *;clear d j
  grind
 ·rw[Ai (by omega)] at d;have f:(a*3) ^^^ 2=a*3+2:=by
   apply UInt64.toNat.inj;rw[d,Bt];simp;omega
  obtain⟨t,l⟩:=W7 k 5 rfl;have q:a=4*UInt64.ofNat k+3:=by rw[j,hk,g];simp
  have m:UInt64.ofNat k*(3*UInt64.ofNat k+5)=2*UInt64.ofNat t:=by
   have:=congrArg UInt64.ofNat l;simpa using this
  refine⟨UInt64.ofNat t+1,?_⟩;rw[f];generalize UInt64.ofNat k=b at *;generalize UInt64.ofNat t=u at *;clear d j
  grind
def Zz (a x:UInt64):UInt64:=x*(2 - a*x)
def znl (a x:UInt64):1 - a*Zz a x=(1 - a*x)*(1 - a*x):=by unfold Zz;grind
def ou (a:UInt64):UInt64:=Zz a (Zz a (Zz a (Zz a (Zz a ((a*3) ^^^ 2)))))
def sq32 (t:UInt64):((32*t)*(32*t))*((32*t)*(32*t))=1048576*(t*t*(t*t)):=by grind
def zz5 (a:UInt64)(h:a%2=1):a*ou a=1:=by
 obtain⟨t,f⟩:=yt a h;have d:1 - a*((a*3) ^^^ 2)=32*(0 - t):=by rw[f];grind
 generalize 0 - t=u at d;have g:1 - a*ou a=0:=by
  unfold ou;rw[znl,znl,znl,znl,znl,d];have j:(32*u)*(32*u)*((32*u)*(32*u))=1048576*(u*u*(u*u)):=sq32 u;rw[j];generalize u*u*(u*u)=w;have l:(1048576*w)*(1048576*w)*((1048576*w)*(1048576*w))=0:=by
   have:(1048576*w)*(1048576*w)*((1048576*w)*(1048576*w))=(1048576*1048576*(1048576*1048576))*(w*w*(w*w)):=by grind
   rw[this,show (1048576*1048576*(1048576*1048576):UInt64)=0 by decide];simp
  rw[l];simp
 have:a*ou a=1 - (1 - a*ou a):=by grind
 rw[this,g];rfl
def fg (a x:UInt64):Nat→UInt64
 |0=>x
 |i+1=>Zz a (fg a x i)
def dc {sz:Nat→Nat}{s:Fs}{n r:Nat}(h:¬(r≤n∧n≤r+3)):Tx sz (E4 (Mi n r)) s fun a=>a.r r=0 - ou (s.r n)∧a.m=s.m∧∀x,¬(r≤x∧x≤r+3)→a.r x=s.r x:=by
 have w:Mi (n:Int) (r:Int)=[cK ((r+3:Nat):Int) 3,Ft ((r+1:Nat):Int) (r:Nat) (n:Nat) ((r+3:Nat):Int),cK ((r+3:Nat):Int) 2,Ew 7 (r:Nat) (r:Nat) ((r+3:Nat):Int)]++(Pu n r 5++[cK ((r+3:Nat):Int) 0,Ew 4 (r:Nat) ((r+3:Nat):Int) (r:Nat)]):=rfl;have round:∀(i:Nat) (s:Fs),s.r (r+3)=2→Tx sz (E4 (Pu n r i)) s fun a=>a.r (r+3)=2∧a.r r=fg (s.r n) (s.r r) i∧a.m=s.m∧∀x,¬(r≤x∧x≤r+3)→a.r x=s.r x:=by
  intro i
  induction i with
  |zero=>intro s l;exact .nil ⟨l,rfl,rfl,fun _ _=>rfl⟩
  |succ i y =>
   intro s l;rw[zcc,frL_app];refine (y s l).cat fun s1 ⟨j,m,o,d⟩=>?_
   have z:jt (n:Int) (r:Int)=[Ft ((r+1:Nat):Int) ((r+2:Nat):Int) (n:Nat) (r:Nat),Ew 4 ((r+2:Nat):Int) ((r+3:Nat):Int) ((r+2:Nat):Int),Ft ((r+1:Nat):Int) (r:Nat) (r:Nat) ((r+2:Nat):Int)]:=rfl;rw[z];refine .op xe (.op Rc (.op xe (.nil ⟨?_,?_,?_,fun x f=>?_⟩)))
   ·simp[Ez,j]
   ·have A:=d n h;have B:¬n=r:=by omega
    simp[Ez,j,m,A,Zz,fg]
   ·simp[Gy,o]
   ·have g:¬x=r:=by omega
    have p:¬x=r+1:=by omega
    have C:¬x=r+2:=by omega
    simp[Ez,g,p,C,d x f]
 rw[w,frL_app];refine Tx.cat (R:=fun a=>a.r (r+3)=2∧a.r r=(s.r n*3) ^^^ 2∧a.m=s.m∧∀x,¬(r≤x∧x≤r+3)→a.r x=s.r x) (.op N0 (.op xe (.op N0 (.op zx9 (.nil ⟨?_,?_,?_,fun x f=>?_⟩))))) fun s1 ⟨j,m,o,d⟩=>?_
 ·simp[Ez]
 ·have D:¬n=r+3:=by omega
  simp[Ez,D]
 ·simp[Gy]
 ·have g:¬x=r:=by omega
  have p:¬x=r+1:=by omega
  have q:¬x=r+3:=by omega
  simp[Ez,g,p,q]
 rw[frL_app];refine (round 5 s1 j).cat fun s2 ⟨H,E,F,G⟩=>?_
 refine .op N0 (.op Rc (.nil ⟨?_,?_,fun x f=>?_⟩))
 ·simp[Ez,E,m,d n h,ou,fg]
 ·simp[Gy,F,o]
 ·have g:¬x=r:=by omega
  have q:¬x=r+3:=by omega
  simp[Ez,g,q,G x f,d x f]
def zvl {bs:List Bf}{n r:Int}{S:List Int}(d:0≤n∧n<64)(h:0≤r∧r+4<64)(f:n∈S)(a:r∈S)(g:r+3∈S):Hd 64 bs S (jt n r):=by
 refine⟨zbz (by omega) (by omega) d (by omega) (by omega),by simp[Ft],?_,zbt (by omega) (by omega) (by omega) (by omega),by simp[Ew],?_,zbz (by omega) (by omega) (by omega) (by omega) (by omega),by simp[Ft],?_,trivial⟩
 ·simp[Ht,Ft,f,a]
 ·simp[Ht,Ew,E8,Ft,g]
 ·simp[Ht,E8,Ft,Ew,a]
def zpx {bs:List Bf}{n r:Int}{S:List Int}(a:0≤n∧n<64)(d:0≤r∧r+4<64)(f:n∈S)(g:r∈S)(h:r+3∈S):∀i,Hd 64 bs S (Pu n r i)
 |0=>trivial
 |i+1=>by rw[zcc];exact ztr (zpx a d f g h i) (zvl a d f g h)
def Vu {bs:List Bf}{n r:Int}{S:List Int}(d:0≤n∧n<64)(g:0≤r∧r+4<64)(f:n∈S):Hd 64 bs S (Mi n r):=by
 refine zqt (a:=Sx n r) ?_ ?_
 ·refine⟨zgt (by omega),by simp[cK],by simp[Ht,cK],zbz (by omega) (by omega) d (by omega) (by omega),by simp[Ft],?_,zgt (by omega),by simp[cK],by simp[Ht,cK],zbt (by omega) (by omega) (by omega) (by omega),by simp[Ew],?_,trivial⟩
  ·simp[Ht,E8,Ft,cK,f]
  ·simp[Ht,E8,Ft,cK,Ew]
 ·refine ztr (zpx d g (Ba _ f) ?_ ?_ 5) ?_
  ·simp[Sx,E8,cK,Ft,Ew]
  ·simp[Sx,E8,cK,Ft,Ew]
  ·refine⟨zgt (by omega),by simp[cK],by simp[Ht,cK],zbt (by omega) (by omega) (by omega) (by omega),by simp[Ew],?_,trivial⟩;simp[Ht,E8,cK,Ew,Sx,Ft]
def zp7 (n r:Int):(Mi n r).length=21:=by
 unfold Mi;rw[Aj,Aj,zhw];rfl
def iU1:iU 1=1:=by rw[Uj];rfl
end Go.Sv
noncomputable section
namespace Go.Sv
def L7 (e:Nat)(d a b n t:Pc)(R:Int):List LV :=
 [.ptr e 0,.i d.buf,.i d.at_,.i d.size,.i a.buf,.i a.at_,.i a.size,.i b.buf,.i b.at_,.i b.size,.i n.buf,.i n.at_,.i n.size,.i t.buf,.i t.at_,.i t.size,
  .i R,.i (R+1),.i (R+2),.i (R+3),.i (R+4),.i (R+5),.i (R+6),.i (R+7),.i (R+8),.i (R+9),.i (R+10)]
def Fw (R a b:Int):List Lo:=[Ft (R+5) (R+6) a b,Fj 11 (R+6) (R+8) (R+6) (R+7) R,Fj 11 (R+6) (R+9) (R+6) (R+3) R,Ew 3 (R+5) (R+5) (R+8),Ew 3 (R+3) (R+5) (R+9)]
def Gt (t:Pc)(k R:Int):List Lo:=[E7 (R+7) t (-1) k,Fj 11 (R+7) (R+8) (R+7) (R+3) R]
def Gk (d times:Int)(b:Fr Lo):Fr Lo:=if times<1 then .nil else .loop (Ky d times) b N8 .nil
def Nt (d times:Int)(b:Fr Lo):(Gk d times b).flat=if times<1 then [] else Ky d times::(b.flat++[N8]):=by
 unfold Gk;split<;>rfl
def Lr (a t:Pc)(R j:Int):List Lo:=[E7 (R+4) a j 0,E7 (R+7) t j 0]++(Fw R (R+4) (R+2)++[Ff t j 0 (R+6)])
def Lk (a b t:Pc)(k R D i:Int):Fr Lo:=(E4 [E7 (R+2) b i 0,cK (R+3) 0]).cat ((Gk D k (E4 (Lr a t R D))).cat (E4 (Gt t k R++[Ff t (-1) k (R+7),Ff t (-1) (k+1) (R+8)])))
def Mh (n t:Pc)(R j:Int):List Lo:=[E7 (R+4) n j 1,E7 (R+7) t j 1]++(Fw R (R+10) (R+4)++[Ff t j 0 (R+6)])
def Ly (n t:Pc)(k R D:Int):Fr Lo:=(E4 ([E7 (R+7) t (-1) 0,Ft (R+5) (R+10) (R+7) (R+1),E7 (R+4) n (-1) 0,cK (R+3) 0]++Fw R (R+10) (R+4))).cat
 ((Gk D (k - 1) (E4 (Mh n t R D))).cat (E4 (Gt t k R++[Ff t (-1) (k - 1) (R+7),E7 (R+7) t (-1) (k+1),Ew 3 (R+7) (R+7) (R+8),Ff t (-1) k (R+7)])))
def Lz (n t:Pc)(R j:Int):List Lo:=[E7 (R+7) t j 0,E7 (R+4) n j 0,Fj 12 (R+6) (R+8) (R+7) (R+4) (R+8)]
def Nn (n t:Pc)(k R D:Int)(x:List Lo):Fr Lo:=(E4 [cK (R+8) 0]).cat (Gk D k (E4 (Lz n t R D++x)))
def Qb (d n t:Pc)(k R D:Int):Fr Lo:=(Nn n t k R D []).cat ((E4 [E7 (R+7) t (-1) k,Fj 12 (R+6) (R+10) (R+7) R (R+8)]).cat (Nn n t k R D [Fx (R+6) (R+10) (R+7) (R+6),Ff d D 0 (R+6)]))
def Ke (p:Pc)(a D:Int):Fr Lo:=Gk D p.size (E4 [Ff p D 0 a])
def O2 (d a b n t:Pc)(k R D:Int):Fr Lo:=(E4 ([cK R 0,E7 (R+10) n (-1) 0]++Mi (R+10) (R+1))).cat ((Ke t R D).cat ((Gk D k ((Lk a b t k R (D+1) D).cat (Ly n t k R (D+1)))).cat (Qb d n t k R D)))
end Go.Sv
end
namespace Go.Sv
def vl (f:Nat→UInt64):Nat→Nat
 |0=>0
 |n+1=>vl f n+(f n).toNat*18446744073709551616^n
def zwm (f:Nat→UInt64):∀n,vl f n<18446744073709551616^n
 |0=>by simp[vl]
 |n+1=>by
  have h:=zwm f n;have a:(f n).toNat+1≤18446744073709551616:=(f n).toNat_lt;have d:=At (18446744073709551616^n) a;rw[Bb,Cm] at d;rw[vl,Bh,Bz (18446744073709551616^n)];omega
def Np {f g:Nat→UInt64}:∀{n:Nat},(∀i,i<n→f i=g i)→vl f n=vl g n
 |0,_=>rfl
 |n+1,h=>by rw[vl,vl,Np fun i hi=>h i (by omega),h n (by omega)]
def xn (f:Nat→UInt64):∀n,vl f (n+1)=(f 0).toNat+18446744073709551616*vl (fun i=>f (i+1)) n
 |0=>by simp[vl]
 |n+1=>by
  rw[vl,xn f n,vl,Bh]
  grind
structure Pn where
 b:Nat
 a:Nat
 k:Nat
def Pn.p (p:Pn):Pc:=⟨p.b,p.a,p.k⟩
def pl (m:Nat→Nat→UInt64)(p:Pn)(i:Nat):UInt64:=m p.b (p.a+i)
def Dj (p q:Pn):Prop:=p.b≠q.b∨p.a+p.k≤q.a∨q.a+q.k≤p.a
def Fp (p:Pn)(m a:Nat→Nat→UInt64):Prop:=∀x y,¬(x=p.b∧p.a≤y∧y<p.a+p.k)→a x y=m x y
def Fp.trans {p:Pn}{m m' aa:Nat→Nat→UInt64}(h:Fp p m m')(k:Fp p m' aa):Fp p m aa:=fun x y hn=>(k x y hn).trans (h x y hn)
def Fp.pl {p q:Pn}{m m':Nat→Nat→UInt64}(h:Fp p m m')(d:Dj p q){i:Nat}(hi:i<q.k):pl m' q i=pl m q i :=
 h _ _ fun ⟨h1,h2,h3⟩=>by
  rcases d with d|d|d
  ·exact d h1.symm
  ·omega
  ·omega
def Fp.vl {p q:Pn}{m m':Nat→Nat→UInt64}(h:Fp p m m')(d:Dj p q){n:Nat}(hn:n≤q.k):vl (Go.Sv.pl m' q) n=vl (Go.Sv.pl m q) n:=Np fun _ hi=>h.pl d (by omega)
def Oe {p:Pn}{s:Fs}{i:Nat}{v:UInt64}(h:i<p.k):Fp p s.m (s.sto p.b (p.a+i) v).m:=fun x y a=>by
 rw[Qy,Ab];rintro⟨rfl,rfl⟩;exact a ⟨rfl,by omega,by omega⟩
def I4 (p:Pn)(s:Fs)(i j:Nat)(v:UInt64):pl (s.sto p.b (p.a+i) v).m p j=if j=i then v else pl s.m p j:=by
 unfold pl;rw[Qy];by_cases h:j=i
 ·subst h;simp
 ·rw[Ab (by omega),Ab h]
def Ro {j:Nat}(h:j<18446744073709551616):(UInt64.ofNat j).toNat=j:=by simp;omega
def Wm {p:Pn}{off:Nat}{x:UInt64}(h:p.a+off+x.toNat<18446744073709551616):(iU (p.p.at_+(off:Int))+x).toNat=p.a+off+x.toNat:=by
 have:p.p.at_+(off:Int)=((p.a+off:Nat):Int):=by simp[Pn.p]
 rw[this,Bt,O9 (by omega),Be (by simpa using h)]
def Qw {p:Pn}{off:Nat}(h:p.a+off<18446744073709551616):(iU (p.p.at_+(off:Int))).toNat=p.a+off:=by
 have:p.p.at_+(off:Int)=((p.a+off:Nat):Int):=by simp[Pn.p]
 rw[this,O9 h]
section ls
variable {sz : Nat → Nat} {s : Fs} {p : Pn}
def Pk {d i off:Nat}(h:p.a+off+(s.r i).toNat<sz p.b)(a:sz p.b≤65536):Ih sz (E7 d p.p i off) s=some (s.put d (pl s.m p (off+(s.r i).toNat))):=by
 rw[ns (b:=p.b) (n:=p.a+off+(s.r i).toNat) rfl (Wm (by omega)) h];unfold pl;rw[Cs]
def su {d off:Nat}(h:p.a+off<sz p.b)(a:sz p.b≤65536):Ih sz (E7 d p.p (-1) off) s=some (s.put d (pl s.m p off)):=by
 rw[bw (b:=p.b) (n:=p.a+off) rfl (Qw (by omega)) h];rfl
def W0 {v i off:Nat}(h:p.a+off+(s.r i).toNat<sz p.b)(a:sz p.b≤65536):Ih sz (Ff p.p i off v) s=some (s.sto p.b (p.a+(off+(s.r i).toNat)) (s.r v)):=by
 rw[mz (b:=p.b) (n:=p.a+off+(s.r i).toNat) rfl (Wm (by omega)) h,Cs]
def jr {v off:Nat}(h:p.a+off<sz p.b)(a:sz p.b≤65536):Ih sz (Ff p.p (-1) off v) s=some (s.sto p.b (p.a+off) (s.r v)):=by
 rw[Z1 (b:=p.b) (n:=p.a+off) rfl (Qw (by omega)) h]
end ls
end Go.Sv
namespace Go.Sv
def ze7 (b:Bool):(F2 b).toNat=b.toNat:=by cases b<;>rfl
def W6 (b:Bool):decide (F2 b%2=1)=b:=by cases b<;>decide
def Z8 {x y w m:UInt64}{hi lo p q f g:UInt64}{a d:Bool}(l:hi=Sl x y)(o:lo=x*y)(r:Iy lo w false=(p,a))(s:Iy p m false=(q,d))(z:f=hi+F2 a)(A:g=f+F2 d) :
  q.toNat+18446744073709551616*g.toNat=x.toNat*y.toNat+w.toNat+m.toNat:=by
 have B:=zyr x y;have h:=zli lo w false;have j:=zli p m false;rw[r] at h;rw[s] at j;subst l o z A;simp only[Bool.toNat_false,C5] at h j;have C:x.toNat*y.toNat≤18446744073709551615*18446744073709551615:=Ca (by have:=x.toNat_lt;omega) (by have:=y.toNat_lt;omega);have D:=w.toNat_lt;have E:=m.toNat_lt;have F:=q.toNat_lt;have d1:a.toNat≤1:=by cases a<;>decide
 have d2:d.toNat≤1:=by cases d<;>decide
 have f1:((Sl x y)+F2 a).toNat=(Sl x y).toNat+a.toNat:=by
  rw[Bt,ze7,Be];omega
 have f2:((Sl x y)+F2 a+F2 d).toNat=(Sl x y).toNat+a.toNat+d.toNat:=by
  rw[Bt,f1,ze7,Be];omega
 rw[f2];omega
section mu
variable {sz : Nat → Nat}
def Jp (R z:Nat):Prop:=R+3≤z∧z≤R+9
def Qh {s:Fs}{R a b:Nat}(f:s.r R=0):Tx sz (E4 (Fw R a b)) s fun d=>d.m=s.m∧(d.r (R+6)).toNat+18446744073709551616*(d.r (R+3)).toNat=(s.r a).toNat*(s.r b).toNat+(s.r (R+7)).toNat+(s.r (R+3)).toNat∧∀z,(¬Jp R z∨z=R+4∨z=R+7)→d.r z=s.r z:=by
 have e:Fw (R:Int) a b=[Ft ((R+5:Nat):Int) ((R+6:Nat):Int) (a:Nat) (b:Nat),Fj 11 ((R+6:Nat):Int) ((R+8:Nat):Int) ((R+6:Nat):Int) ((R+7:Nat):Int) (R:Nat),Fj 11 ((R+6:Nat):Int) ((R+9:Nat):Int) ((R+6:Nat):Int) ((R+3:Nat):Int) (R:Nat),Ew 3 ((R+5:Nat):Int) ((R+5:Nat):Int) ((R+8:Nat):Int),Ew 3 ((R+3:Nat):Int) ((R+5:Nat):Int) ((R+9:Nat):Int)]:=rfl;rw[e];unfold Jp at *;refine .op xe (.op zra (.op zra (.op sh (.op sh (.nil ⟨rfl,?_,fun z p=>?_⟩)))))
 ·simp[Ez,f,-UInt64.toNat_add];exact Z8 (x:=s.r a) (y:=s.r b) (w:=s.r (R+7)) (m:=s.r (R+3)) rfl rfl rfl rfl rfl rfl
 ·have g:¬z=R+5:=by omega
  have h:¬z=R+6:=by omega
  have j:¬z=R+8:=by omega
  have l:¬z=R+9:=by omega
  have o:¬z=R+3:=by omega
  simp[Ez,o,g,h,j,l]
def I3 (f:Nat→UInt64)(n:Nat):vl f (n+1)=vl f n+(f n).toNat*18446744073709551616^n:=rfl
def Tx.lp {s:Fs}{d n:Nat}{b:Fr Lo}{Q:Fs→Prop}(I:Nat→Fs→Prop)(h0:I 0 s)(hn:n<18446744073709551616)(h1:∀i s,i<n→I i s→Tx sz b (s.put d (UInt64.ofNat i)) (I (i+1)))(h2:∀s',I n s'→Q s'):Tx sz (Gk (d:Nat) (n:Nat) b) s Q:=by
 unfold Gk;have e:(Ky (d:Nat) (n:Nat)).imm.toNat=n:=O9 hn;split
 ·have:n=0:=by omega
  subst this;exact .nil (h2 _ h0)
 ·refine .loop I h0 (fun i s hi hI=>?_) fun s' hI=>.nil (h2 _ ?_)
  ·rw[e] at hi;exact h1 i s hi hI
  ·rw[e] at hI;exact hI
def X2 (R D:Nat)(s a:Fs):Prop:=∀z,¬Jp R z→z≠D→a.r z=s.r z
def RgA (R D:Nat)(s a:Fs):Prop:=∀z,¬(R+2≤z∧z≤R+10)→z≠D→a.r z=s.r z
def Pn.in_ (sz:Nat→Nat)(p:Pn):Prop:=p.a+p.k≤sz p.b∧sz p.b≤65536
def zql {s:Fs}{R D j:Nat}{a t:Pn}(w:s.r R=0)(J:D<R)(m:(s.r D).toNat=j)(A:a.in_ sz)(B:t.in_ sz)(K:j<a.k)(L:j<t.k) :
  Tx sz (E4 (Lr a.p t.p R D)) s fun g=>∃q:UInt64,(∀i,pl g.m t i=if i=j then q else pl s.m t i)∧Fp t s.m g.m∧X2 R D s g ∧
   q.toNat+18446744073709551616*(g.r (R+3)).toNat=(pl s.m a j).toNat*(s.r (R+2)).toNat+(pl s.m t j).toNat+(s.r (R+3)).toNat:=by
 obtain⟨C,l⟩:=A;obtain⟨E,f⟩:=B;have e:Lr a.p t.p R D=[E7 ((R+4:Nat):Int) a.p (D:Nat) ((0:Nat):Int),E7 ((R+7:Nat):Int) t.p (D:Nat) ((0:Nat):Int)]++(Fw R ((R+4:Nat):Int) ((R+2:Nat):Int)++[Ff t.p (D:Nat) ((0:Nat):Int) ((R+6:Nat):Int)]):=rfl;rw[e,frL_app,frL_app];have dn:∀n,n<11→¬D=R+n:=fun n h=>by omega
 refine .op (Pk (by omega) l) (.op (Pk (by simp only[Ez,Ab (dn 4 (by omega))];omega) f) ((Qh (by simp[Ez,w])).cat fun s1 ⟨m1,v1,o⟩=>?_));have d:s1.r D=s.r D:=by rw[o _ (.inl (by unfold Jp;omega))];simp[Ez,dn]
 refine .op (W0 (by rw[d];omega) f) (.nil ⟨s1.r (R+6),fun i=>?_,?_,fun z r F=>?_,?_⟩)
 ·rw[I4,d,m,m1];simp[Gy]
 ·have:=Oe (p:=t) (s:=s1) (i:=0+(s1.r D).toNat) (v:=s1.r (R+6)) (by rw[d];omega);intro x y G;rw[this x y G,m1];rfl
 ·rw[Kd,o z (.inl r)];unfold Jp at r;have H:¬z=R+4:=by omega
  have I:¬z=R+7:=by omega
  simp[Ez,H,I]
 ·rw[Kd];simpa [Ez,Gy,dn,m] using v1
def T4 {W P v r T A y q r' x t:Nat}(h:v+P*r=T+A*y)(k:q+W*r'=x*y+t+r):v+q*P+P*W*r'=T+t*P+(A+x*P)*y:=by
 have a:P*(q+W*r')=P*(x*y+t+r):=by rw[k]
 grind
def Zi {W P v r T A y p c t:Nat}(h:v+P*r=T+A*y)(k:p+W*c=t+r):v+p*P+c*(P*W)=T+t*P+A*y:=by
 have a:P*(p+W*c)=P*(t+r):=by rw[k]
 grind
def Ud {s:Fs}{R k:Nat}{t:Pn}(d:s.r R=0)(f:t.in_ sz)(hk:k+2≤t.k)(r:Fr Lo)(Q:Fs→Prop)
  (h:∀(s1:Fs) (c:Bool),s1.m=s.m→s1.r (R+8)=F2 c→(s1.r (R+7)).toNat+18446744073709551616*c.toNat=(pl s.m t k).toNat+(s.r (R+3)).toNat→(∀z,z≠R+7→z≠R+8→s1.r z=s.r z)→Tx sz r s1 Q) :
  Tx sz ((E4 (Gt t.p k R)).cat r) s Q:=by
 obtain⟨g,a⟩:=f;have e:Gt t.p k R=[E7 ((R+7:Nat):Int) t.p (-1) (k:Nat),Fj 11 ((R+7:Nat):Int) ((R+8:Nat):Int) ((R+7:Nat):Int) ((R+3:Nat):Int) (R:Nat)]:=rfl;rw[e];refine .op (su (by omega) a) (.op zra ?_);refine h _ (Iy (pl s.m t k) (s.r (R+3)) false).2 rfl ?_ ?_ fun z j l=>?_
 ·simp[Ez,d]
 ·have:=zli (pl s.m t k) (s.r (R+3)) false;simpa [Ez,d] using this
 ·simp[Ez,j,l]
def U0 {s:Fs}{R D i k:Nat}{a b t:Pn}(K:s.r R=0)(L:D<R)(hi:(s.r i).toNat<b.k)(M:b.in_ sz)(N:a.in_ sz)(C:t.in_ sz)(hk:k≤a.k)(x:k+2≤t.k)(O:Dj t a)(hW:sz t.b≤65536) :
  Tx sz (Lk a.p b.p t.p k R D i) s fun o=>RgA R D s o∧Fp t s.m o.m∧vl (pl o.m t) (k+2)=vl (pl s.m t) (k+1)+vl (pl s.m a) k*(pl s.m b (s.r i).toNat).toNat∧(pl o.m t (k+1)).toNat≤1:=by
 have e:Lk a.p b.p t.p k R D i=(E4 [E7 ((R+2:Nat):Int) b.p (i:Nat) ((0:Nat):Int),cK ((R+3:Nat):Int) 0]).cat ((Gk (D:Nat) (k:Nat) (E4 (Lr a.p t.p R D))).cat ((E4 (Gt t.p k R)).cat (E4 [Ff t.p (-1) (k:Nat) ((R+7:Nat):Int),Ff t.p (-1) ((k+1:Nat):Int) ((R+8:Nat):Int)]))):=by
  rw[←frL_app];rfl
 rw[e];obtain⟨P,y⟩:=M;have l:=C;obtain⟨Q,m⟩:=C;have dn:∀n,n<11→¬D=R+n:=fun n h=>by omega
 refine .op (Pk (by omega) y) (.op N0 ?_);rw[show ∀g:Fr Lo,Fr.cat (E4 []) g=g from fun _=>rfl];generalize d:(Fs.put (s.put (R+2) (pl s.m b (0+(s.r i).toNat))) (R+3) 0)=s0;have E:s0.m=s.m:=by rw[←d];rfl
 have S:s0.r (R+2)=pl s.m b (s.r i).toNat:=by rw[←d];simp[Ez]
 have T:s0.r (R+3)=0:=by rw[←d];simp[Ez]
 have F:∀z,z≠R+2→z≠R+3→s0.r z=s.r z:=fun z U V=>by rw[←d];simp[Ez,U,V]
 have G:s0.r R=0:=by rw[F R (by omega) (by omega),K]
 refine .cat (R:=fun s1=>X2 R D s0 s1∧Fp t s.m s1.m∧(∀i,k≤i→pl s1.m t i=pl s.m t i)∧vl (pl s1.m t) k+18446744073709551616^k*(s1.r (R+3)).toNat=vl (pl s.m t) k+vl (pl s.m a) k*(s0.r (R+2)).toNat) ?_ fun s1 ⟨g1,p,w,v1⟩=>?_
 ·refine .lp (fun j s1=>X2 R D s0 s1∧Fp t s.m s1.m∧(∀i,j≤i→pl s1.m t i=pl s.m t i)∧vl (pl s1.m t) j+18446744073709551616^j*(s1.r (R+3)).toNat=vl (pl s.m t) j+vl (pl s.m a) j*(s0.r (R+2)).toNat) ⟨fun _ _ _=>rfl,fun _ _ _=>by rw[E],fun _ _=>by rw[E],by simp[vl,T]⟩ (by omega) (fun j s1 hj ⟨g1,p,w,v1⟩=>?_) fun _ h=>h
  have f:∀z,¬Jp R z→z≠D→(s1.put D (UInt64.ofNat j)).r z=s0.r z:=fun z a b=>by rw[Ez,Ab b,g1 z a b]
  have W:(s1.put D (UInt64.ofNat j)).r (R+3)=s1.r (R+3):=by rw[Ez,Ab (by omega)]
  refine (zql (j:=j) (by rw[f _ (by unfold Jp;omega) (by omega),G]) L (by simp[Ez];omega) N l (by omega) (by omega)).mono fun s2 ⟨q,A,X,Y,H⟩=>⟨fun z a b=>(Y z a b).trans (f z a b),p.trans X,fun i hi=>?_,?_⟩
  ·rw[A,Ab (by omega)];exact w i (by omega)
  ·rw[f _ (by unfold Jp;omega) (by omega),Gy,p.pl O (by omega),w j (by omega),W] at H;rw[I3,I3,I3,A,Ai rfl,Bh,Np (g:=pl s1.m t) fun i hi=>by rw[A,Ab (by omega)];rfl];exact T4 v1 H
 ·refine Ud (by rw[g1 _ (by unfold Jp;omega) (by omega),G]) l x _ _ fun s2 c I J v2 Z=>?_
  refine .op (jr (by omega) m) (.op (jr (by omega) m) (.nil ⟨fun z hz B=>?_,?_,?_,?_⟩))
  ·rw[Kd,Kd,Z z (by omega) (by omega),g1 z (by unfold Jp;omega) B,F z (by omega) (by omega)]
  ·exact p.trans (I ▸ (Oe (by omega)).trans (Oe (by omega)))
  ·rw[I3,I3,I3,I4,I4,I4,Ai rfl,Ab (by omega),Ai rfl,Kd,J,ze7,Np (g:=pl s1.m t) fun i hi=>by rw[I4,Ab (by omega),I4,Ab (by omega),I],Bh,←S];rw[w k (by omega)] at v2;exact Zi v1 v2
  ·rw[I4,Ai rfl,Kd,J,ze7];cases c<;>decide
def zu1 {s:Fs}{R D j:Nat}{n t:Pn}(w:s.r R=0)(H:D<R)(m:(s.r D).toNat=j)(g:n.in_ sz)(A:t.in_ sz)(I:j+1<n.k)(J:j+1<t.k) :
  Tx sz (E4 (Mh n.p t.p R D)) s fun f=>∃q:UInt64,(∀i,pl f.m t i=if i=j then q else pl s.m t i)∧Fp t s.m f.m∧X2 R D s f ∧
   q.toNat+18446744073709551616*(f.r (R+3)).toNat=(s.r (R+10)).toNat*(pl s.m n (j+1)).toNat+(pl s.m t (j+1)).toNat+(s.r (R+3)).toNat:=by
 obtain⟨B,l⟩:=g;obtain⟨C,d⟩:=A;have e:Mh n.p t.p R D=[E7 ((R+4:Nat):Int) n.p (D:Nat) ((1:Nat):Int),E7 ((R+7:Nat):Int) t.p (D:Nat) ((1:Nat):Int)]++(Fw R ((R+10:Nat):Int) ((R+4:Nat):Int)++[Ff t.p (D:Nat) ((0:Nat):Int) ((R+6:Nat):Int)]):=rfl;rw[e,frL_app,frL_app];have dn:∀n,n<11→¬D=R+n:=fun n h=>by omega
 refine .op (Pk (by omega) l) (.op (Pk (by simp only[Ez,Ab (dn 4 (by omega))];omega) d) ((Qh (by simp[Ez,w])).cat fun s1 ⟨m1,v1,o⟩=>?_));have a:s1.r D=s.r D:=by rw[o _ (.inl (by unfold Jp;omega))];simp[Ez,dn]
 refine .op (W0 (by rw[a];omega) d) (.nil ⟨s1.r (R+6),fun i=>?_,?_,fun z r E=>?_,?_⟩)
 ·rw[I4,a,m,m1];simp[Gy]
 ·have:=Oe (p:=t) (s:=s1) (i:=0+(s1.r D).toNat) (v:=s1.r (R+6)) (by rw[a];omega);intro x y g;rw[this x y g,m1];rfl
 ·rw[Kd,o z (.inl r)];unfold Jp at r;have F:¬z=R+4:=by omega
  have G:¬z=R+7:=by omega
  simp[Ez,F,G]
 ·rw[Kd];simpa [Ez,Gy,dn,m,Nat.add_comm 1] using v1
def R6 {W P v r T N m q r' x t:Nat}(h:W*v+P*W*r=T+m*N)(k:q+W*r'=m*x+t+r):W*(v+q*P)+P*W*W*r'=T+t*(P*W)+m*(N+x*(P*W)):=by
 have a:P*W*(q+W*r')=P*W*(m*x+t+r):=by rw[k]
 grind
def Ut {W P v r T N m p c t u:Nat}(h:W*v+P*W*r=T+m*N)(k:p+W*c=t+r):W*(v+p*P+(u+c)*(P*W))=T+t*(P*W)+u*(P*W*W)+m*N:=by
 have a:P*W*(p+W*c)=P*W*(t+r):=by rw[k]
 grind
def cy {t i n q h:UInt64}(hi:i*n+1=0)(e:q.toNat+18446744073709551616*h.toNat=(t*i).toNat*n.toNat+t.toNat):q.toNat=0:=by
 have a:(t*i*n+t).toNat=0:=by
  rw[show t*i*n+t=t*(i*n+1) by grind,hi];simp
 rw[Bt,Ea] at a;have:=q.toNat_lt;omega
def cz {s:Fs}{R D k:Nat}{n t:Pn}(J:s.r R=0)(Q:D<R)(hinv:s.r (R+1)*pl s.m n 0+1=0)(K:n.in_ sz)(L:t.in_ sz)(hk:k+1≤n.k)(S:k+3≤t.k)(T:Dj t n)(hc:(pl s.m t (k+2)).toNat≤1) :
  Tx sz (Ly n.p t.p (k+1:Nat) R D) s fun y=>RgA R D s y∧Fp t s.m y.m∧pl y.m t (k+2)=pl s.m t (k+2)∧∃m:UInt64,18446744073709551616*vl (pl y.m t) (k+2)=vl (pl s.m t) (k+3)+m.toNat*vl (pl s.m n) (k+1):=by
 have C:((k+1:Nat):Int) - 1=(k:Nat):=by omega
 have e:Ly n.p t.p (k+1:Nat) R D=(E4 ([E7 ((R+7:Nat):Int) t.p (-1) ((0:Nat):Int),Ft ((R+5:Nat):Int) ((R+10:Nat):Int) ((R+7:Nat):Int) ((R+1:Nat):Int),E7 ((R+4:Nat):Int) n.p (-1) ((0:Nat):Int),cK ((R+3:Nat):Int) 0]++Fw R ((R+10:Nat):Int) ((R+4:Nat):Int))).cat
   ((Gk (D:Nat) (k:Nat) (E4 (Mh n.p t.p R D))).cat ((E4 (Gt t.p (k+1:Nat) R)).cat (E4 [Ff t.p (-1) (k:Nat) ((R+7:Nat):Int),E7 ((R+7:Nat):Int) t.p (-1) ((k+2:Nat):Int),Ew 3 ((R+7:Nat):Int) ((R+7:Nat):Int) ((R+8:Nat):Int),Ff t.p (-1) ((k+1:Nat):Int) ((R+7:Nat):Int)]))):=by
  rw[←frL_app,←C];rfl
 rw[e];have E:=K;have w:=L;obtain⟨U,d⟩:=K;obtain⟨V,f⟩:=L;have dn:∀n,n<11→¬D=R+n:=fun n h=>by omega
 rw[frL_app];refine Tx.cat (R:=fun s1=>(∀z,¬Jp R z→z≠R+10→s1.r z=s.r z)∧s1.m=s.m∧18446744073709551616*(s1.r (R+3)).toNat=(s1.r (R+10)).toNat*(pl s.m n 0).toNat+(pl s.m t 0).toNat) ?_ fun s1 ⟨g1,m1,v1⟩=>?_
 ·refine .op (su (by omega) f) (.op xe (.op (su (by omega) d) (.op N0 ((Qh (by simp[Ez,J])).mono fun s1 ⟨m1,v1,M⟩=>⟨fun z F l=>?_,?_,?_⟩))))
  ·rw[M z (.inl F)];unfold Jp at F;have W:¬z=R+3:=by omega
   have X:¬z=R+4:=by omega
   have Y:¬z=R+5:=by omega
   have G:¬z=R+7:=by omega
   simp[Ez,W,X,Y,G,l]
  ·rw[m1];rfl
  ·have x:=M (R+10) (.inl (by unfold Jp;omega));simp[Ez,Gy] at v1 x;rw[x];have:=cy (t:=pl s.m t 0) hinv (by simpa using v1);rw[Ea,show (2:Nat)^64=18446744073709551616 from rfl];rw[this,Bd] at v1;exact v1
 have N:s1.r R=0:=by rw[g1 R (by unfold Jp;omega) (by omega),J]
 refine .cat (R:=fun s2=>X2 R D s1 s2∧Fp t s.m s2.m∧(∀i,k≤i→pl s2.m t i=pl s.m t i)∧18446744073709551616*vl (pl s2.m t) k+18446744073709551616^k*18446744073709551616*(s2.r (R+3)).toNat=vl (pl s.m t) (k+1)+(s1.r (R+10)).toNat*vl (pl s.m n) (k+1)) ?_ fun s2 ⟨g2,A,o,v2⟩=>?_
 ·refine .lp (fun j s2=>X2 R D s1 s2∧Fp t s.m s2.m∧(∀i,j≤i→pl s2.m t i=pl s.m t i)∧18446744073709551616*vl (pl s2.m t) j+18446744073709551616^j*18446744073709551616*(s2.r (R+3)).toNat=vl (pl s.m t) (j+1)+(s1.r (R+10)).toNat*vl (pl s.m n) (j+1)) ⟨fun _ _ _=>rfl,fun _ _ _=>by rw[m1],fun _ _=>by rw[m1],by simp[vl];omega⟩ (by omega) (fun j s2 hj ⟨g2,A,o,v2⟩=>?_) fun _ h=>h
  have d:∀z,¬Jp R z→z≠D→(s2.put D (UInt64.ofNat j)).r z=s1.r z:=fun z a b=>by rw[Ez,Ab b,g2 z a b]
  have Z:(s2.put D (UInt64.ofNat j)).r (R+3)=s2.r (R+3):=by rw[Ez,Ab (by omega)]
  refine (zu1 (j:=j) (by rw[d _ (by unfold Jp;omega) (by omega),N]) Q (by simp[Ez];omega) E w (by omega) (by omega)).mono fun s3 ⟨q,H,e2,e3,O⟩=>⟨fun z a b=>(e3 z a b).trans (d z a b),A.trans e2,fun i hi=>?_,?_⟩
  ·rw[H,Ab (by omega)];exact o i (by omega)
  ·rw[d _ (by unfold Jp;omega) (by omega),Gy,A.pl T (by omega),o (j+1) (by omega),Z] at O;rw[I3,I3 _ (j+1),I3 _ (j+1),H,Ai rfl,Bh,Np (g:=pl s2.m t) fun i hi=>by rw[H,Ab (by omega)];rfl];exact R6 v2 O
 ·refine Ud (by rw[g2 _ (by unfold Jp;omega) (by omega),N]) w (by omega) _ _ fun s3 c B c3 P r3=>?_
  refine .op (jr (by omega) f) (.op (su (by omega) f) (.op sh (.op (jr (by omega) f) (.nil ⟨fun z F l=>?_,?_,?_,s1.r (R+10),?_⟩))))
  ·have G:¬z=R+7:=by omega
   simp only[Kd,Ez,Ab G];rw[r3 z (by omega) (by omega),g2 z (by unfold Jp;omega) l,g1 z (by unfold Jp;omega) (by omega)]
  ·exact A.trans (B ▸ (Oe (by omega)).trans (Oe (p:=t) (by omega)))
  ·rw[I4,Ab (by omega),Gy,Gy,I4,Ab (by omega),B,o (k+2) (by omega)]
  ·rw[o (k+1) (by omega)] at P;have I:((pl s.m t (k+2))+F2 c).toNat=(pl s.m t (k+2)).toNat+c.toNat:=by
    rw[Bt,ze7,Be];have:c.toNat≤1:=by cases c<;>decide
    omega
   rw[I3 _ (k+2),I3 _ (k+1),I3 _ (k+1),I3 _ k,Np (g:=pl s2.m t) (n:=k) fun i hi=>by rw[I4,Ab (by omega),Gy,Gy,I4,Ab (by omega),B]];have hu:=o (k+2) (by omega);simp[Ez,Gy,Kd,I4,c3,-UInt64.toNat_add,B];rw[hu,I,Bh,Bh];exact Ut v2 P
def vy {W P v n t c q x y b:Nat}(h:v+n=t+P*c)(k:q+x+c=y+W*b):v+q*P+(n+x*P)=t+y*P+P*W*b:=by
 have a:P*(q+x+c)=P*(y+W*b):=by rw[k]
 grind
def zoa {s:Fs}{R D j:Nat}{n t:Pn}{c:Bool}(B:D<R)(a:(s.r D).toNat=j)(g:s.r (R+8)=F2 c)(l:n.in_ sz)(m:t.in_ sz)(C:j<n.k)(E:j<t.k)(x:List Lo)(Q:Fs→Prop)
  (h:∀(s1:Fs) (b:Bool),s1.m=s.m→s1.r (R+8)=F2 b→s1.r (R+7)=pl s.m t j→(s1.r (R+6)).toNat+(pl s.m n j).toNat+c.toNat=(pl s.m t j).toNat+18446744073709551616*b.toNat→(∀z,¬Jp R z→s1.r z=s.r z)→Tx sz (E4 x) s1 Q) :
  Tx sz (E4 (Lz n.p t.p R D++x)) s Q:=by
 obtain⟨o,d⟩:=l;obtain⟨p,f⟩:=m;have e:Lz n.p t.p R D++x=E7 ((R+7:Nat):Int) t.p (D:Nat) ((0:Nat):Int)::E7 ((R+4:Nat):Int) n.p (D:Nat) ((0:Nat):Int)::Fj 12 ((R+6:Nat):Int) ((R+8:Nat):Int) ((R+7:Nat):Int) ((R+4:Nat):Int) ((R+8:Nat):Int)::x:=rfl;rw[e];have dn:∀n,n<11→¬D=R+n:=fun n h=>by omega
 refine .op (Pk (by omega) f) (.op (Pk (by simp only[Ez,Ab (dn 7 (by omega))];omega) d) (.op zg ?_));have hv:=zo (pl s.m t j) (pl s.m n j) c;refine h _ (Gx (pl s.m t j) (pl s.m n j) c).2 rfl ?_ ?_ ?_ fun z q=>?_
 ·simp[Ez,Gy,dn,a,g,W6]
 ·simp[Ez,Gy,dn,a]
 ·simpa [Ez,Gy,dn,a,g,W6] using hv
 ·unfold Jp at q;have r:¬z=R+4:=by omega
  have w:¬z=R+6:=by omega
  have y:¬z=R+7:=by omega
  have A:¬z=R+8:=by omega
  simp[Ez,r,w,y,A]
def Z7 {s:Fs}{R D k:Nat}{n t:Pn}(l:D<R)(f:n.in_ sz)(m:t.in_ sz)(hk:k≤n.k)(o:k≤t.k) :
  Tx sz (Nn n.p t.p k R D []) s fun g=>X2 R D s g∧g.m=s.m∧∃(c:Bool) (v:Nat),g.r (R+8)=F2 c∧v<18446744073709551616^k∧v+vl (pl s.m n) k=vl (pl s.m t) k+18446744073709551616^k*c.toNat:=by
 have p:k<18446744073709551616:=by have:=f.1;have:=f.2;omega
 have e:Nn n.p t.p k R D []=(E4 [cK ((R+8:Nat):Int) 0]).cat (Gk (D:Nat) (k:Nat) (E4 (Lz n.p t.p R D++[]))):=rfl;rw[e];refine .op N0 ?_;refine .lp (fun j s1=>X2 R D s s1∧s1.m=s.m∧∃(c:Bool) (v:Nat),s1.r (R+8)=F2 c∧v<18446744073709551616^j∧v+vl (pl s.m n) j=vl (pl s.m t) j+18446744073709551616^j*c.toNat) ⟨fun z d _=>?_,rfl,false,0,by simp[Ez,F2],by simp,by simp[vl]⟩ p (fun j s1 A ⟨g1,m1,c,v,q,B,v1⟩=>?_) fun _ h=>h
 ·unfold Jp at d;rw[Ez,Ab (by omega)]
 ·refine zoa (j:=j) (c:=c) l (by simp[Ez];omega) (by rw[Ez,Ab (by omega),q]) f m (by omega) (by omega) _ _ fun s2 b r w t2 v2 x=>.nil ⟨fun z d a=>?_,by rw[r,Gy,m1],b,v+(s2.r (R+6)).toNat*18446744073709551616^j,w,?_,?_⟩
  ·rw[x z d,Ez,Ab a,g1 z d a]
  ·have:=(s2.r (R+6)).toNat_lt;have y:=At (18446744073709551616^j) (show (s2.r (R+6)).toNat+1≤18446744073709551616 by omega);rw[Bb,Cm] at y;rw[Bh,Bz (18446744073709551616^j)];omega
  ·rw[Gy,m1] at v2;rw[I3,I3,Bh];exact vy v1 v2
def ss (p q:Pn):Prop:=Dj p q∨(p.b=q.b∧p.a=q.a)
def ss.sto {d n:Pn}{s:Fs}{v:UInt64}{i j:Nat}(h:ss d n)(hj:j<d.k)(hi:i<n.k)(aa:i≠j):pl (s.sto d.b (d.a+j) v).m n i=pl s.m n i:=by
 rcases h with h|⟨e1,e2⟩
 ·exact (Oe hj).pl h hi
 ·unfold pl;rw[Qy,Ab (by omega)]
def Y2 {s:Fs}{R D k:Nat}{d n t:Pn}{p:Bool}(F:D<R)(G:s.r (R+10)=F2 p)(q:n.in_ sz)(H:t.in_ sz)(hd:d.in_ sz)(hk:k≤n.k)(I:k≤t.k)(J:k≤d.k)(dn:ss d n)(C:Dj d t) :
  Tx sz (Nn n.p t.p k R D [Fx (R+6) (R+10) (R+7) (R+6),Ff d.p D 0 (R+6)]) s fun w=>X2 R D s w∧Fp d s.m w.m∧∃(c:Bool) (v:Nat),v<18446744073709551616^k∧v+vl (pl s.m n) k=vl (pl s.m t) k+18446744073709551616^k*c.toNat∧vl (pl w.m d) k=if p=true then vl (pl s.m t) k else v:=by
 have K:k<18446744073709551616:=by have:=q.1;have:=q.2;omega
 have e:Nn n.p t.p k R D [Fx (R+6) (R+10) (R+7) (R+6),Ff d.p D 0 (R+6)]=(E4 [cK ((R+8:Nat):Int) 0]).cat (Gk (D:Nat) (k:Nat) (E4 (Lz n.p t.p R D++[Fx ((R+6:Nat):Int) ((R+10:Nat):Int) ((R+7:Nat):Int) ((R+6:Nat):Int),Ff d.p (D:Nat) ((0:Nat):Int) ((R+6:Nat):Int)]))):=rfl;rw[e];refine .op N0 ?_;refine .lp (fun j s1=>X2 R D s s1∧Fp d s.m s1.m∧∃(c:Bool) (v:Nat),s1.r (R+8)=F2 c∧v<18446744073709551616^j∧v+vl (pl s.m n) j=vl (pl s.m t) j+18446744073709551616^j*c.toNat∧vl (pl s1.m d) j=(if p=true then vl (pl s.m t) j else v)∧∀i,j≤i→i<n.k→pl s1.m n i=pl s.m n i) ⟨fun z f _=>?_,fun _ _ _=>rfl,false,0,by simp[Ez,F2],by simp,by simp[vl],by simp[vl],fun _ _ _=>rfl⟩ K (fun j s1 T ⟨g1,x,c,v,L,U,v1,d1,E⟩=>?_) fun _ ⟨M,N,c,v,_,y,O,P,_⟩=>⟨M,N,c,v,y,O,P⟩
 ·unfold Jp at f;rw[Ez,Ab (by omega)]
 ·refine zoa (j:=j) (c:=c) F (by simp[Ez];omega) (by rw[Ez,Ab (by omega),L]) q H (by omega) (by omega) _ _ fun s2 b m Q t2 v2 A=>?_
  have S:(s2.r D).toNat=j:=by rw[A D (by unfold Jp;omega)];simp[Ez];omega
  rw[Gy] at t2 v2 m;rw[E j (Am _) (by omega),x.pl C (by omega)] at v2;rw[x.pl C (by omega)] at t2;have B:s2.r (R+10)=F2 p:=by rw[A _ (by unfold Jp;omega),Ez,Ab (by omega),g1 _ (by unfold Jp;omega) (by omega),G]
  refine .op zm5 (.op (W0 (by simp only[Ez];rw[Ab (by omega)];have:=hd.1;omega) hd.2) (.nil ⟨fun z f h=>?_,?_,b,v+(s2.r (R+6)).toNat*18446744073709551616^j,?_,?_,?_,?_,fun i hi l=>?_⟩))
  ·rw[Kd,Ez,Ab (by unfold Jp at f;omega),A z f,Ez,Ab h,g1 z f h]
  ·refine x.trans (m ▸ ?_);exact Oe (p:=d) (s:=s2.put _ _) (by rw[Ez,Ab (by omega)];omega)
  ·rw[Kd,Ez,Ab (by omega),Q]
  ·have:=(s2.r (R+6)).toNat_lt;have y:=At (18446744073709551616^j) (show (s2.r (R+6)).toNat+1≤18446744073709551616 by omega);rw[Bb,Cm] at y;rw[Bh,Bz (18446744073709551616^j)];omega
  ·rw[I3,I3,Bh];exact vy v1 v2
  ·have a:0+((s2.put (R+6) (if s2.r (R+10)%2=1 then s2.r (R+7) else s2.r (R+6))).r D).toNat=j:=by rw[Ez,Ab (by omega)];omega
   rw[I3,a,I4,Ai rfl,Np (g:=pl s1.m d) (n:=j) fun i hi=>by rw[I4,Ab (by omega),Gy,m],d1,Ez,Ai rfl,B,t2];have o:=W6 p;cases p
   ·simp at o;simp[o]
   ·simp at o;simp[o,I3]
  ·have a:0+((s2.put (R+6) (if s2.r (R+10)%2=1 then s2.r (R+7) else s2.r (R+6))).r D).toNat=j:=by rw[Ez,Ab (by omega)];omega
   rw[a,dn.sto (by omega) l (by omega),Gy,m];exact E i (by omega) l
def Wt {P V N t c b v e:Nat}{W q:Nat}(j:N<P)(l:V+t*P<2*N)(hv:v<P)(a:c≤1)(d:b≤1)(h:v+N=V+P*c)(k:q+c=t+W*b)(m:q<W)(g:e+N=V+P*c):(V+t*P<N↔b=1)∧(b=1→t=0)∧(b=0→e=V+t*P - N):=by
 have f:t≤1:=by
  rcases C4 t 2 with h|h
  ·omega
  ·have:=At P h;omega
 have f:t=0∨t=1:=by omega
 have a:c=0∨c=1:=by omega
 have d:b=0∨b=1:=by omega
 rcases f with rfl|rfl<;>rcases a with rfl|rfl<;>rcases d with rfl|rfl<;>simp at *<;>omega
def Zy {s:Fs}{R D k:Nat}{d n t:Pn}(x:s.r R=0)(o:D<R)(q:n.in_ sz)(f:t.in_ sz)(hd:d.in_ sz)(hk:k≤n.k)(y:k+1≤t.k)(g:k≤d.k)(dn:ss d n)(A:Dj d t)(r:vl (pl s.m t) (k+1)<2*vl (pl s.m n) k) :
  Tx sz (Qb d.p n.p t.p k R D) s fun h=>RgA R D s h∧Fp d s.m h.m∧vl (pl h.m d) k=if vl (pl s.m t) (k+1)<vl (pl s.m n) k then vl (pl s.m t) (k+1) else vl (pl s.m t) (k+1) - vl (pl s.m n) k:=by
 have e:Qb d.p n.p t.p k R D=(Nn n.p t.p k R D []).cat ((E4 [E7 ((R+7:Nat):Int) t.p (-1) (k:Nat),Fj 12 ((R+6:Nat):Int) ((R+10:Nat):Int) ((R+7:Nat):Int) (R:Nat) ((R+8:Nat):Int)]).cat (Nn n.p t.p k R D [Fx (R+6) (R+10) (R+7) (R+6),Ff d.p D 0 (R+6)])):=rfl;rw[e];refine (Z7 o q f hk (by omega)).cat fun s1 ⟨g1,m1,c,v,B,C,v1⟩=>?_
 have E:=zo (pl s.m t k) 0 c;refine .op (su (by have:=f.1;omega) f.2) (.op zg ?_);have F:s1.r R=0:=by rw[g1 R (by unfold Jp;omega) (by omega),x]
 refine (Y2 (p:=(Gx (pl s.m t k) 0 c).2) o ?_ q f hd hk (by omega) g dn A).mono fun M ⟨g3,G,c',N,O,j,d3⟩=>⟨fun z P a=>?_,?_,?_⟩
 ·simp[Ez,F,B,W6,m1]
 ·rw[g3 z (by unfold Jp;omega) a];simp only[Ez];rw[Ab (by omega),Ab (by omega),Ab (by omega),g1 z (by unfold Jp;omega) a]
 ·rw[←m1];exact G
 ·simp only[Gy,m1] at j d3;rw[I3] at r ⊢;have H:=zwm (pl s.m n) k;have I:=(Gx (pl s.m t k) 0 c).1.toNat_lt;have l:c.toNat≤1:=by cases c<;>decide
  have m:c'.toNat=c.toNat:=by
   rcases c with _|_<;>rcases c' with _|_<;>simp at *<;>omega
  rw[m] at j;generalize (Gx (pl s.m t k) 0 c).2=b at *;have J:b.toNat≤1:=by cases b<;>decide
  obtain⟨w,K,L⟩:=Wt H r C l J v1 (by simpa using E) I j;rw[d3];cases b
  ·rw[Ab (by simp),Ab (by rw[w];simp),L rfl]
  ·rw[Ai rfl,Ai (by rw[w];rfl),K rfl];simp
def zri {s:Fs}{D a:Nat}{p:Pn}(m:p.in_ sz)(g:a≠D):Tx sz (Ke p.p a D) s fun f=>(∀z,z≠D→f.r z=s.r z)∧Fp p s.m f.m∧∀i,i<p.k→pl f.m p i=s.r a:=by
 have e:Ke p.p a D=Gk (D:Nat) (p.k:Nat) (E4 [Ff p.p (D:Nat) ((0:Nat):Int) (a:Nat)]):=rfl;rw[e];obtain⟨w,o⟩:=m;refine .lp (fun j s1=>(∀z,z≠D→s1.r z=s.r z)∧Fp p s.m s1.m∧∀i,i<j→pl s1.m p i=s.r a) ⟨fun _ _=>rfl,fun _ _ _=>rfl,fun _ h=>absurd h (by omega)⟩ (by omega) (fun j s1 x ⟨g1,q,v1⟩=>?_) fun _ h=>h
 have d:((s1.put D (UInt64.ofNat j)).r D).toNat=j:=by simp[Ez];omega
 refine .op (W0 (by rw[d];omega) o) (.nil ⟨fun z l=>?_,?_,fun i hi=>?_⟩)
 ·rw[Kd,Ez,Ab l,g1 z l]
 ·exact q.trans (Oe (p:=p) (s:=s1.put _ _) (by rw[d];omega))
 ·rw[I4,d];split
  ·rw[Ez,Ab g,g1 a g]
  ·rw[Gy];exact v1 i (by omega)
def y8 {f:Nat→UInt64}:∀{n:Nat},(∀i,i<n→f i=0)→vl f n=0
 |0,_=>rfl
 |n+1,h=>by rw[vl,y8 fun i hi=>h i (by omega),h n (by omega)];simp
def zy8 {W P A B Q N V a X b m:Nat}(h:P*V=A*B+Q*N)(d:X=V+A*b)(f:W*a=X+m*N):P*W*a=A*(B+b*P)+(Q+m*P)*N:=by
 have:P*(W*a)=P*(V+A*b+m*N):=by rw[f,d]
 grind
def U6 {W A N V a X b m:Nat}(g:V<2*N)(h:A<N)(j:b<W)(hm:m<W)(d:X=V+A*b)(f:W*a=X+m*N):a<2*N:=by
 have g1:A*b≤N*(W - 1):=Ca (by omega) (by omega);have g2:m*N≤(W - 1)*N:=At _ (by omega);have g3:(W - 1)*N+N=W*N:=by
  rw[←D5];congr 1;omega
 rw[Bz N] at g1;have g4:W*a<W*(2*N):=by
  rw[f,d,Nat.mul_left_comm];omega
 exact Nat.lt_of_mul_lt_mul_left g4
def Y3 {s:Fs}{R D k:Nat}{d a b n t:Pn}(hD:D+1<R)(hd:d.in_ sz)(X:a.in_ sz)(Y:b.in_ sz)(B:n.in_ sz)(E:t.in_ sz)(Z:k+1≤d.k)(O:k+1≤a.k)(kb:k+1≤b.k)(q:k+1≤n.k)(P:k+3≤t.k)
  (dn:ss d n) (dt:Dj d t) (S:Dj t a) (tb:Dj t b) (w:Dj t n) (L:pl s.m n 0%2=1) (hA:vl (pl s.m a) (k+1)<vl (pl s.m n) (k+1)) :
  Tx sz (O2 d.p a.p b.p n.p t.p (k+1:Nat) R D) s fun H=>(∀z,¬(R≤z∧z≤R+10)→z≠D→z≠D+1→H.r z=s.r z)∧(∀x y,¬(x=d.b∧d.a≤y∧y<d.a+d.k)→¬(x=t.b∧t.a≤y∧y<t.a+t.k)→H.m x y=s.m x y) ∧
   vl (pl H.m d) (k+1)<vl (pl s.m n) (k+1)∧∃Q Q':Nat,18446744073709551616^(k+1)*vl (pl H.m d) (k+1)+Q'*vl (pl s.m n) (k+1)=vl (pl s.m a) (k+1)*vl (pl s.m b) (k+1)+Q*vl (pl s.m n) (k+1):=by
 have e:O2 d.p a.p b.p n.p t.p (k+1:Nat) R D=(E4 ([cK (R:Nat) 0,E7 ((R+10:Nat):Int) n.p (-1) ((0:Nat):Int)]++Mi ((R+10:Nat):Int) ((R+1:Nat):Int))).cat ((Ke t.p (R:Nat) (D:Nat)).cat ((Gk (D:Nat) (k+1:Nat) ((Lk a.p b.p t.p (k+1:Nat) R ((D+1:Nat):Int) D).cat (Ly n.p t.p (k+1:Nat) R ((D+1:Nat):Int)))).cat (Qb d.p n.p t.p (k+1:Nat) R D))):=rfl;rw[e,frL_app];have M:k+1<18446744073709551616:=by have:=B.1;have:=B.2;omega
 refine Tx.cat (R:=fun s1=>s1.r R=0∧s1.r (R+1)*pl s.m n 0+1=0∧s1.m=s.m∧∀z,¬(R≤z∧z≤R+10)→s1.r z=s.r z) ?_ fun s1 ⟨T,I1,m1,g1⟩=>?_
 ·refine .op N0 (.op (su (by have:=B.1;omega) B.2) ((dc (by omega)).mono fun s1 ⟨e1,e2,U⟩=>⟨?_,?_,?_,fun z hz=>?_⟩))
  ·rw[U R (by omega)];simp[Ez]
  ·rw[e1];simp only[Ez,Bu,Gy];have:=zz5 _ L
   grind
  ·rw[e2];rfl
  ·rw[U z (by omega),Ez,Ab (by omega),Ez,Ab (by omega)]
 refine (zri E (by omega)).cat fun s2 ⟨g2,V,I⟩=>?_
 have N:s2.r R=0:=by rw[g2 R (by omega),T]
 have I2:s2.r (R+1)*pl s.m n 0+1=0:=by rw[g2 (R+1) (by omega),I1]
 rw[m1] at V;rw[T] at I;refine .cat (R:=fun f=>(∀z,¬(R+2≤z∧z≤R+10)→z≠D→z≠D+1→f.r z=s2.r z)∧Fp t s.m f.m∧(pl f.m t (k+2)).toNat≤1∧vl (pl f.m t) (k+2)<2*vl (pl s.m n) (k+1)∧∃Q,18446744073709551616^(k+1)*vl (pl f.m t) (k+2)=vl (pl s.m a) (k+1)*vl (pl s.m b) (k+1)+Q*vl (pl s.m n) (k+1)) ?_ fun f ⟨g3,p,_,F,Q,C⟩=>?_
 ·refine .lp (fun i f=>(∀z,¬(R+2≤z∧z≤R+10)→z≠D→z≠D+1→f.r z=s2.r z)∧Fp t s.m f.m∧(pl f.m t (k+2)).toNat≤1∧vl (pl f.m t) (k+2)<2*vl (pl s.m n) (k+1)∧∃Q,18446744073709551616^i*vl (pl f.m t) (k+2)=vl (pl s.m a) (k+1)*vl (pl s.m b) i+Q*vl (pl s.m n) (k+1)) ⟨fun _ _ _ _=>rfl,V,by rw[I _ (by omega)];decide,?_,0,?_⟩ M (fun i f hi ⟨g3,p,c3,F,Q,C⟩=>?_) fun _ h=>h
  ·rw[y8 fun i hi=>I i (by omega)];omega
  ·rw[y8 fun i hi=>I i (by omega)];simp[vl]
  ·have G:((f.put D (UInt64.ofNat i)).r D).toNat=i:=by simp[Ez];omega
   have j:∀z,¬(R+2≤z∧z≤R+10)→z≠D→z≠D+1→(f.put D (UInt64.ofNat i)).r z=s2.r z:=fun z l g A=>by rw[Ez,Ab g,g3 z l g A]
   refine (U0 (k:=k+1) (b:=b) (i:=D) (by rw[j R (by omega) (by omega) (by omega),N]) (by omega) (by rw[G];omega) Y X E O P S E.2).cat fun s4 ⟨g4,J,v4,W⟩=>?_
   rw[Gy] at J v4;rw[G,p.pl tb (by omega),p.vl S O] at v4;have o:=p.trans J;refine (cz (k:=k) (by rw[g4 R (by omega) (by omega),j R (by omega) (by omega) (by omega),N]) (by omega) (by rw[g4 (R+1) (by omega) (by omega),j _ (by omega) (by omega) (by omega),o.pl w (by omega),I2]) B E q P w W).mono fun s5 ⟨g5,o5,c5,m,K⟩=>⟨fun z l g A=>?_,o.trans o5,?_,?_,Q+m.toNat*18446744073709551616^i,?_⟩
   ·rw[g5 z l A,g4 z l A,j z l g A]
   ·rw[c5];exact W
   ·rw[o.vl w q] at K;exact U6 F hA (pl s.m b i).toNat_lt m.toNat_lt v4 K
   ·rw[o.vl w q] at K;rw[Bh,I3];exact zy8 C v4 K
 ·refine (Zy (k:=k+1) (by rw[g3 R (by omega) (by omega) (by omega),N]) (by omega) B E hd q (by omega) Z dn dt (by rw[p.vl w q];exact F)).mono fun s4 ⟨g4,J,v4⟩=>⟨fun z l g A=>?_,fun x y l g=>?_,?_,?_⟩
  ·rw[g4 z (by omega) g,g3 z (by omega) g A,g2 z g,g1 z l]
  ·rw[J x y l,p x y g]
  ·have F:vl (pl f.m t) (k+1+1)<2*vl (pl s.m n) (k+1):=F;rw[p.vl w q] at v4;rw[v4];split<;>omega
  ·have C:18446744073709551616^(k+1)*vl (pl f.m t) (k+1+1)=vl (pl s.m a) (k+1)*vl (pl s.m b) (k+1)+Q*vl (pl s.m n) (k+1):=C;rw[p.vl w q] at v4;rw[v4];split
   ·exact⟨Q,0,by rw[C];omega⟩
   ·refine⟨Q,18446744073709551616^(k+1),?_⟩;rw[←C,←Nat.mul_add,Nat.sub_add_cancel (by omega)]
end mu
end Go.Sv
namespace Go.Sv
def Ot (ls:List Int)(m:List Bool):Prop:=∀x,0≤x→x<8→(I0 m x=true↔x∈ls)
def Gd (bs:List Bf)(S:List Int)(ls:List Int)(f:Fr Lo)(S':List Int):Prop :=
 ∀m,Tg 64 m S→Ot ls m→∃a,Tg 64 a S'∧Ot ls a∧(∀x,8≤x→I0 m x=true→I0 a x=true)∧∀i rest,Rz 64 bs i m ls (f.flat++rest)=Rz 64 bs (i+f.flat.length) a ls rest
def zmy {x:Int}(d:0≤x):∀(mk:List Int) (m:List Bool),(∀y∈mk,0≤y∧y<m.length)→I0 m x=true→I0 (mk.foldl (fun m r=>m.set r.toNat true) m) x=true
 |[],_,_,h=>h
 |a::mk,m,j,h=>by
  have l:=j a (B5 ..);exact zmy d mk _ (fun y o=>by rw[Ce];exact j y (Az _ o)) ((um ⟨l.1,l.2⟩ d).2 (.inr h))
section gd
variable {bs : List Bf} {S S' S2 ls : List Int} {f g : Fr Lo}
def Tg.sub {regs:Int}{m:List Bool}(h:Tg regs m S)(k:∀x∈S',x∈S):Tg regs m S':=⟨h.1,fun x hx=>h.2 x (k x hx)⟩
def Gd.mono (h:Gd bs S ls f S')(k1:∀x∈S,x∈S2){S3:List Int}(k2:∀x∈S3,x∈S'):Gd bs S2 ls f S3:=fun m hm hi=>by
 obtain⟨m',h1,h2,hk,h3⟩:=h m (hm.sub k1) hi;exact⟨m',h1.sub k2,h2,hk,h3⟩
def Gd.cat (h:Gd bs S ls f S')(k:Gd bs S' ls g S2):Gd bs S ls (f.cat g) S2:=fun m hm hi=>by
 obtain⟨m1,h1,h2,ha,h3⟩:=h m hm hi;obtain⟨m2,k1,k2,kb,k3⟩:=k m1 h1 h2;refine⟨m2,k1,k2,fun x hx hq=>kb x hx (ha x hx hq),fun i rest=>?_⟩;rw[Hi,Br,h3,k3,Aj,Cs]
def Gd.nil:Gd bs S ls .nil S:=fun m hm hi=>⟨m,hm,hi,fun _ _ h=>h,fun _ _=>rfl⟩
def Gd.keep {T:List Int}(h:Gd bs S ls f S'):Gd bs (T++S) ls f (T++S'):=fun m hm hi=>by
 obtain⟨m',h1,h2,hk,h3⟩:=h m (hm.sub fun x hx=>Ba _ hx) hi;refine⟨m',⟨h1.1,fun x hx=>?_⟩,h2,hk,h3⟩;rcases Ay.1 hx with hx|hx
 ·obtain⟨a,b,d⟩:=hm.2 x (Dk _ hx);refine⟨a,b,?_⟩;by_cases q:8≤x
  ·exact hk x q d
  ·exact (h2 x a (by omega)).2 ((hi x a (by omega)).1 d)
 ·exact h1.2 x hx
def Gd.keep0 (h:Gd bs [] ls f []):Gd bs S ls f S:=by
 have:=Gd.keep (T:=S) h;simpa using this
def Ot.fold:∀(mk:List Int) (m:List Bool),m.length=64→Ot ls m→(∀x∈mk,8≤x∧x<64)→Ot ls (mk.foldl (fun m r=>m.set r.toNat true) m)
 |[],_,_,h,_=>h
 |a::mk,m,hl,h,hr=>by
  have ha:=hr a (B5 ..);refine Ot.fold mk _ (by simpa using hl) (fun x h0 h8=>?_) fun x hx=>hr x (Az _ hx)
  rw[←h x h0 h8,um ⟨by omega,by omega⟩ h0];constructor
  ·rintro (q|q)
   ·omega
   ·exact q
  ·exact .inr
def Gd.L (ad:∀x∈ls,x<8):∀{l:List Lo} {S:List Int},Hd 64 bs S l→(∀o∈l,∀x∈E8 o,8≤x)→Gd bs S ls (E4 l) ((l.flatMap E8)++S)
 |[],S,_,_=>fun m hm hi=>⟨m,by simpa using hm,hi,fun _ _ h=>h,fun _ _=>rfl⟩
 |o::l,S,h,hk=>fun m hm hi=>by
  obtain⟨h1,⟨h2,h3⟩,h4,h5⟩:=h;have aa:=Tz h1;have af:=hk o (B5 ..);have hs:=Uw (m:=m) (ls:=ls) h1 h2 h3 (fun x hx q=>by have:=ad x q;have:=af x hx;omega) (fun x hx=>(hm.2 x (h4 x hx)).2.2);have ag:=hm.fold (E8 o) m S aa;have ah:=hi.fold (E8 o) m (by have:=hm.1;omega) fun x hx=>⟨af x hx,(aa x hx).2⟩
  obtain⟨m',k1,k2,kk,k3⟩:=Gd.L ad h5 (fun p hp=>hk p (Az _ hp)) _ ag ah;refine⟨m',k1.sub fun x hx=>?_,k2,fun x hx hq=>kk x hx (zmy (by omega) _ _ (fun y hy=>by have:=aa y hy;have:=hm.1;omega) hq),fun i rest=>?_⟩
  ·simp only[Ds,Ay] at hx ⊢;rcases hx with (hx|hx)|hx
   ·exact .inr (.inl hx)
   ·exact .inl hx
   ·exact .inr (.inr hx)
  ·rw[E4,Fr.flat,Bi,Rz,hs];dsimp only;rw[Ai rfl,k3,Ar]
   congr 1;omega
def Sa {d times:Int}(h:0≤d∧d<64)(m:1≤times∧times≤1048576):Ib 64 bs (Ky d times)=true:=by
 have a:(iU times).toNat=times.toNat:=by
  obtain⟨n,rfl⟩:=Af (show 0≤times by omega);rw[O9 (by omega)];rfl
 have j:(1:UInt64)≤iU times:=by rw[Bq,a];show 1≤_;omega
 have l:iU times≤(1048576:UInt64):=by rw[Bq,a];show _≤1048576;omega
 simp[Ib,Ky,Fh,Gj,Gh,Gr,Jg,Jl,Gf,h,j,l]
def fields_En:Ib 64 bs N8=true:=by simp[Ib,N8,Fh,Gj,Gh,Gr,Jg,Jl,Gf]
def zis {m:List Bool}{a x:Int}(d:0≤a∧a<m.length)(j:0≤x):I0 (m.set a.toNat false) x=true↔x≠a∧I0 m x=true:=by
 unfold I0;rw[S1 _ _ _ _ _ (by omega)];by_cases e:x.toNat=a.toNat
 ·rw[Ai e];simp;intro h;omega
 ·rw[Ab e];constructor
  ·exact fun h=>⟨by rintro rfl;exact e rfl,h⟩
  ·exact fun h=>h.2
def Gd.loop {d times:Int}{b r:Fr Lo}{S3:List Int}(aq:ls.length<8)(hd:0≤d∧d<8)(hn:¬d∈ls)(ht:1≤times∧times≤1048576)(hb:Gd bs (d::S) (ls++[d]) b S')(hs:∀x∈S2,x∈S'∧x≠d)(hr:Gd bs S2 ls r S3):Gd bs S ls (.loop (Ky d times) b N8 r) S3:=fun m hm hi=>by
 have ap:m.length=64:=by have:=hm.1;omega
 have aa:I0 m d=false:=by
  cases q:I0 m d
  ·rfl
  ·exact absurd ((hi d hd.1 hd.2).1 q) hn
 have ad:M5 64 bs m ls (Ky d times)=(0,m.set d.toNat true,ls++[d]):=by
  unfold M5;rw[Ab (by rw[Sa (by omega) ht];decide),Ab (by simp[Ky]),Ab,Ab (by simp[Ky,aa]),Ab (by simp[Ky];omega),Ab (by simp[Ky,Ht])]
  ·simp[Ky,E8]
  ·simp[Ky,E8,hn]
 have af:Tg 64 (m.set d.toNat true) (d::S):=by
  have:=hm.fold [d] m S (fun x hx=>by simp at hx;omega);simpa using this
 have ag:Ot (ls++[d]) (m.set d.toNat true):=fun x h0 h8=>by
  rw[um ⟨by omega,by omega⟩ h0,hi x h0 h8];simp[or_comm]
 obtain⟨m2,a1,a2,ak,a3⟩:=hb _ af ag;have ar:m2.length=64:=by have:=a1.1;omega
 have ah:Tg 64 (m2.set d.toNat false) S2:=⟨by simpa using a1.1,fun x hx=>by
  obtain⟨h1,h2⟩:=hs x hx;obtain⟨b1,b2,b3⟩:=a1.2 x h1;exact⟨b1,b2,(zis ⟨by omega,by omega⟩ b1).2 ⟨h2,b3⟩⟩⟩
 have aj:Ot ls (m2.set d.toNat false):=fun x h0 h8=>by
  rw[zis ⟨by omega,by omega⟩ h0,a2 x h0 h8];simp only[Ay,List.mem_singleton];constructor
  ·rintro⟨h1,h2|h2⟩
   ·exact h2
   ·exact absurd h2 h1
  ·exact fun h=>⟨fun q=>hn (q ▸ h),.inl h⟩
 obtain⟨m4,c1,c2,ck,c3⟩:=hr _ ah aj;refine⟨m4,c1,c2,fun x hx hq=>ck x hx ((zis ⟨by omega,by omega⟩ (by omega)).2 ⟨by omega,ak x hx ((um ⟨by omega,by omega⟩ (by omega)).2 (.inr hq))⟩),fun i rest=>?_⟩;have ao:M5 64 bs m2 (ls++[d]) N8=(0,m2.set d.toNat false,ls):=by
  unfold M5;rw[Ab (by rw[fields_En];decide),Ai (by rfl)];simp
 rw[Fr.flat,Bi,Rz,ad];dsimp only;rw[Ai rfl,Br,a3,Bi,Rz,ao];dsimp only;rw[Ai rfl,c3,Ar,Aj,Ar]
 congr 1;omega
def Gd.lp {d times:Int}{b:Fr Lo}(aa:ls.length<8)(hd:0≤d∧d<8)(hn:¬d∈ls)(ad:¬d∈S)(ht:times≤1048576)(hb:Gd bs (d::S) (ls++[d]) b S')(hs:∀x∈S,x∈S'):Gd bs S ls (Gk d times b) S:=by
 unfold Gk;split
 ·exact .nil
 ·exact .loop aa hd hn (by omega) hb (fun x hx=>⟨hs x hx,fun q=>ad (q ▸ hx)⟩) .nil
def bu (l:bs.length≤32)(m:f.flat.length≤65536)(d:∀b∈bs,1≤b.size∧b.size≤65536∧1≤b.kind∧b.kind≤3)(h:Gd bs [] [] f S'):Jq 64 bs f.flat=((f.flat.length:Int),0):=by
 unfold Jq;rw[Ab (by omega),Ab,Ab (by omega),Ab]
 ·obtain⟨o,_,_,_,j⟩:=h (List.replicate 64 false) ⟨by simp,by simp⟩ (fun x p q=>by
   unfold I0;rw[Ae,List.getElem?_replicate];split<;>simp)
  have:=j 0 [];rw[Bx] at this;rw[show (64:Int).toNat=64 from rfl,this,Rz,Ai rfl,Bd]
 ·rw[Bv];rintro⟨b,a,hk⟩;have:=d b a;simp at hk;omega
 ·rw[Bv];rintro⟨b,a,hk⟩;have:=d b a;simp at hk;omega
end gd
end Go.Sv
namespace Go.Sv
section w
variable {bs : List Bf} {S : List Int} {l : List Lo}
def Qu {d:Int}{v:UInt64}(h:0≤d∧d<64)(k:Hd 64 bs (d::S) l):Hd 64 bs S (cK d v::l):=⟨zgt h,by simp[cK],by simp[Ht,cK],k⟩
def zzi {d e a b:Int}(h:0≤d∧d<64)(he:0≤e∧e<64)(f:0≤a∧a<64)(g:0≤b∧b<64)(j:d≠e)(m:a∈S)(o:b∈S)(k:Hd 64 bs (d::e::S) l):Hd 64 bs S (Ft d e a b::l) :=
 ⟨zbz h he f g j,by simp[Ft],by simp[Ht,Ft,m,o],k⟩
def U1 {k' d a b:Int}(hk:3≤k'∧k'≤7)(h:0≤d∧d<64)(g:0≤a∧a<64)(j:0≤b∧b<64)(m:a∈S)(o:b∈S)(k:Hd 64 bs (d::S) l):Hd 64 bs S (Ew k' d a b::l):=by
 refine⟨zbt hk h g j,by simp[Ew];omega,fun x f=>?_,?_⟩
 ·unfold Ht Ew at f;simp only at f;rw[Ab (by omega),Ai (by omega)] at f;simp at f;rcases f with rfl|rfl
  ·exact m
  ·exact o
 ·have:E8 (Ew k' d a b)=[d]:=by unfold E8 Ew;simp only;rw[Ab (by omega),Ab (by omega)]
  rw[this];exact k
def bx {k' d e a b c:Int}(hk:k'=11∨k'=12)(h:0≤d∧d<64)(he:0≤e∧e<64)(f:0≤a∧a<64)(g:0≤b∧b<64)(j:0≤c∧c<64)(m:d≠e)(o:a∈S)(p:b∈S)(q:c∈S)(k:Hd 64 bs (d::e::S) l):Hd 64 bs S (Fj k' d e a b c::l):=by
 refine⟨zua hk h he f g j m,by rcases hk with rfl|rfl<;>simp[Fj],?_,?_⟩
 ·rcases hk with rfl|rfl<;>simp[Ht,Fj,o,p,q]
 ·rcases hk with rfl|rfl<;>exact k
def zm3 {d c a b:Int}(h:0≤d∧d<64)(f:0≤c∧c<64)(g:0≤a∧a<64)(j:0≤b∧b<64)(m:c∈S)(o:a∈S)(p:b∈S)(k:Hd 64 bs (d::S) l):Hd 64 bs S (Fx d c a b::l) :=
 ⟨zu6 h f g j,by simp[Fx],by simp[Ht,Fx,o,p,m],k⟩
structure Bp (bs:List Bf) (p:Pn):Prop where
 b:p.b<bs.length
 s:((p.a+p.k:Nat):Int)≤(Fk bs p.b).size
 z:(Fk bs p.b).size≤65536
def Bw (bs:List Bf)(p:Pn):Prop:=(Fk bs p.b).kind≠1
def Bp.at {p:Pn}(h:Bp bs p){off:Int}(h0:0≤off)(hk:off<p.k):iU (p.p.at_+off)<iU (Fk bs p.p.buf.toNat).size:=by
 obtain⟨o,rfl⟩:=Af h0;have hs:=h.s;have hz:=h.z;obtain⟨z,aa⟩:=Af (show 0≤(Fk bs p.b).size by omega);have e1:p.p.buf.toNat=p.b:=rfl;rw[e1,aa,Cl,O9 (by omega),Qw (by omega)];omega
def Ph {d i off:Int}{p:Pn}(f:Bp bs p)(h:0≤d∧d<64)(hi:0≤i∧i<64)(g:i∈S)(k:Hd 64 bs (d::S) l):Hd 64 bs S (E7 d p.p i off::l):=by
 refine⟨zn4 h (.inr hi) ⟨by simp[Pn.p],by have:=f.b;simpa [Pn.p] using this⟩ (fun q=>by omega),by simp[E7],?_,k⟩;have:i≠-1:=by omega
 simp[Ht,E7,this,g]
def gy {d off:Int}{p:Pn}(f:Bp bs p)(h:0≤d∧d<64)(g:0≤off)(hk:off<p.k)(k:Hd 64 bs (d::S) l):Hd 64 bs S (E7 d p.p (-1) off::l):=by
 refine⟨zn4 h (.inl rfl) ⟨by simp[Pn.p],by have:=f.b;simpa [Pn.p] using this⟩ (fun _=>f.at g hk),by simp[E7],by simp[Ht,E7],k⟩
def Ug {v i off:Int}{p:Pn}(f:Bp bs p)(hw:Bw bs p)(h:0≤v∧v<64)(hi:0≤i∧i<64)(g:i∈S)(j:v∈S)(k:Hd 64 bs S l):Hd 64 bs S (Ff p.p i off v::l):=by
 refine⟨zon h (.inr hi) ⟨by simp[Pn.p],by have:=f.b;simpa [Pn.p] using this⟩ hw (fun q=>by omega),by simp[Ff],?_,k⟩;have:i≠-1:=by omega
 simp[Ht,Ff,this,g,j]
def ke {v off:Int}{p:Pn}(f:Bp bs p)(hw:Bw bs p)(h:0≤v∧v<64)(g:0≤off)(hk:off<p.k)(j:v∈S)(k:Hd 64 bs S l):Hd 64 bs S (Ff p.p (-1) off v::l):=by
 refine⟨zon h (.inl rfl) ⟨by simp[Pn.p],by have:=f.b;simpa [Pn.p] using this⟩ hw (fun _=>f.at g hk),by simp[Ff],by simp[Ht,Ff,j],k⟩
def okL_nil:Hd 64 bs S []:=trivial
end w
section into
variable {bs : List Bf} {ls : List Int} {R D : Int} {d a b n t : Pn} {k : Int}
def zvw {S:List Int}{l:List Lo}{a b:Int}(q:16≤R∧R≤50)(f:0≤a∧a<64)(g:0≤b∧b<64)(h:a∈S)(j:b∈S)(m:R∈S)(o:R+3∈S)(p:R+7∈S)(k:Hd 64 bs ((R+3)::(R+5)::(R+6)::(R+9)::(R+6)::(R+8)::(R+5)::(R+6)::S) l):Hd 64 bs S (Fw R a b++l):=by
 unfold Fw;refine zzi ?_ ?_ f g ?_ h j (bx (.inl rfl) ?_ ?_ ?_ ?_ ?_ ?_ ?_ ?_ ?_ (bx (.inl rfl) ?_ ?_ ?_ ?_ ?_ ?_ ?_ ?_ ?_ (U1 ?_ ?_ ?_ ?_ ?_ ?_ (U1 ?_ ?_ ?_ ?_ ?_ ?_ k))))
 all_goals first|omega|(simp[m,o,p];done)|(simp;omega)
def zrn {n r:Int}:∀o∈Mi n r,∀x∈E8 o,r≤x∧x≤r+4:=by
 intro o ho;simp[Mi,Sx,Pu,jt,cK,Ft,Ew] at ho;rcases ho with rfl|rfl|rfl|rfl|⟨_,rfl|rfl|rfl⟩|rfl|rfl<;>simp[E8]<;>omega
def U4 {i:Int}(o:16≤R∧R≤50)(hi:0≤i∧i<8)(p:0≤D∧D<8)(q:¬D∈ls)(r:D≠i)(m:ls.length<8)(g:∀x∈ls,x<8)(pa:Bp bs a)(pb:Bp bs b)(j:Bp bs t)(wt:Bw bs t)(hk:0≤k∧k+1<t.k) :
  Gd bs [i,R,R+1,R+10] ls (Lk a.p b.p t.p k R D i) [i,R,R+1,R+10]:=by
 have s:(t.k:Int)≤65536:=by have:=j.s;have:=j.z;omega
 unfold Lk;have w:Hd 64 bs [i,R,R+1,R+10] [E7 (R+2) b.p i 0,cK (R+3) 0]:=Ph pb (by omega) (by omega) (by simp) (Qu (by omega) okL_nil);have y:Hd 64 bs (D::(List.flatMap E8 [E7 (R+2) b.p i 0,cK (R+3) 0]++[i,R,R+1,R+10])) (Lr a.p t.p R D):=by
  unfold Lr;refine Ph pa (by omega) (by omega) (by simp) (Ph j (by omega) (by omega) (by simp) (zvw o (by omega) (by omega) (by simp) (by simp[E8,E7]) (by simp[E8,E7,cK]) (by simp[E8,E7,cK]) (by simp) (Ug j wt (by omega) (by omega) (by simp) (by simp) okL_nil)))
 have z:Hd 64 bs (List.flatMap E8 [E7 (R+2) b.p i 0,cK (R+3) 0]++[i,R,R+1,R+10]) (Gt t.p k R++[Ff t.p (-1) k (R+7),Ff t.p (-1) (k+1) (R+8)]):=by
  unfold Gt;refine gy j (by omega) (by omega) (by omega) (bx (.inl rfl) (by omega) (by omega) (by omega) (by omega) (by omega) (by omega) (by simp) (by simp[E8,E7,cK]) (by simp[E8,E7,cK]) (ke j wt (by omega) (by omega) (by omega) (by simp) (ke j wt (by omega) (by omega) (by omega) (by simp) okL_nil)))
 refine Gd.mono ((Gd.L g w ?_).cat ((Gd.lp m p q ?_ (by omega) (Gd.L ?_ y ?_) ?_).cat (Gd.L g z ?_))) (fun x h=>h) ?_
 ·simp[E8,E7,cK];omega
 ·simp[E8,E7,cK];omega
 ·intro x f;rcases Ay.1 f with f|f
  ·exact g x f
  ·simp at f;omega
 ·simp[E8,Lr,Fw,E7,Ff,Ft,Fj,Ew];omega
 ·intro x f;exact Ba _ (Az _ f)
 ·simp[E8,Gt,E7,Ff,Fj];omega
 ·intro x f;exact Ba _ (Ba _ f)
def Z5 {i:Int}(o:16≤R∧R≤50)(p:0≤D∧D<8)(q:¬D∈ls)(r:D≠i)(m:ls.length<8)(j:∀x∈ls,x<8)(pn:Bp bs n)(f:Bp bs t)(wt:Bw bs t)(hk:1≤k∧k+1<t.k)(s:0<n.k) :
  Gd bs [i,R,R+1,R+10] ls (Ly n.p t.p k R D) [i,R,R+1,R+10]:=by
 have w:(t.k:Int)≤65536:=by have:=f.s;have:=f.z;omega
 unfold Ly;have y:Hd 64 bs [i,R,R+1,R+10] ([E7 (R+7) t.p (-1) 0,Ft (R+5) (R+10) (R+7) (R+1),E7 (R+4) n.p (-1) 0,cK (R+3) 0]++Fw R (R+10) (R+4)):=by
  rw[←Bx (_++Fw R (R+10) (R+4)),Br];exact gy f (by omega) (by omega) (by omega) (zzi (by omega) (by omega) (by omega) (by omega) (by omega) (by simp) (by simp) (gy pn (by omega) (by omega) (by omega) (Qu (by omega) (zvw o (by omega) (by omega) (by simp) (by simp) (by simp) (by simp) (by simp) okL_nil))))
 have z:Hd 64 bs (D::(List.flatMap E8 ([E7 (R+7) t.p (-1) 0,Ft (R+5) (R+10) (R+7) (R+1),E7 (R+4) n.p (-1) 0,cK (R+3) 0]++Fw R (R+10) (R+4))++[i,R,R+1,R+10])) (Mh n.p t.p R D):=by
  unfold Mh;refine Ph pn (by omega) (by omega) (by simp) (Ph f (by omega) (by omega) (by simp) (zvw o (by omega) (by omega) (by simp) (by simp[E8,E7]) (by simp[E8,E7,cK]) (by simp[E8,E7,cK]) (by simp) (Ug f wt (by omega) (by omega) (by simp) (by simp) okL_nil)))
 have A:Hd 64 bs (List.flatMap E8 ([E7 (R+7) t.p (-1) 0,Ft (R+5) (R+10) (R+7) (R+1),E7 (R+4) n.p (-1) 0,cK (R+3) 0]++Fw R (R+10) (R+4))++[i,R,R+1,R+10]) (Gt t.p k R++[Ff t.p (-1) (k - 1) (R+7),E7 (R+7) t.p (-1) (k+1),Ew 3 (R+7) (R+7) (R+8),Ff t.p (-1) k (R+7)]):=by
  unfold Gt;refine gy f (by omega) (by omega) (by omega) (bx (.inl rfl) (by omega) (by omega) (by omega) (by omega) (by omega) (by omega) (by simp) (by simp[E8,E7,cK]) (by simp[E8,E7,cK]) (ke f wt (by omega) (by omega) (by omega) (by simp) (gy f (by omega) (by omega) (by omega) (U1 (by omega) (by omega) (by omega) (by omega) (by simp) (by simp) (ke f wt (by omega) (by omega) (by omega) (by simp) okL_nil)))))
 refine Gd.mono ((Gd.L j y ?_).cat ((Gd.lp m p q ?_ (by omega) (Gd.L ?_ z ?_) ?_).cat (Gd.L j A ?_))) (fun x h=>h) ?_
 ·simp[E8,Fw,E7,cK,Ft,Fj,Ew];omega
 ·simp[E8,Fw,E7,cK,Ft,Fj,Ew];omega
 ·intro x g;rcases Ay.1 g with g|g
  ·exact j x g
  ·simp at g;omega
 ·simp[E8,Mh,Fw,E7,Ff,Ft,Fj,Ew];omega
 ·intro x g;exact Ba _ (Az _ g)
 ·simp[E8,Gt,E7,Ff,Fj,Ew];omega
 ·intro x g;exact Ba _ (Ba _ g)
def zyi {x:Int}{S:List Int}{p:Pn}(q:0≤x∧x<64)(mx:x∈S)(r:0≤D∧D<8)(s:¬D∈ls)(g:¬D∈S)(j:ls.length<8)(m:∀x∈ls,x<8)(o:Bp bs p)(wp:Bw bs p):Gd bs S ls (Ke p.p x D) S:=by
 have w:(p.k:Int)≤65536:=by have:=o.s;have:=o.z;omega
 unfold Ke;have h:Hd 64 bs (D::S) [Ff p.p D 0 x]:=Ug o wp q (by omega) (by simp) (by simp[mx]) okL_nil;refine Gd.lp j r s g (by show (p.k:Int)≤_;omega) (Gd.L ?_ h ?_) ?_
 ·intro y f;rcases Ay.1 f with f|f
  ·exact m y f
  ·simp at f;omega
 ·simp[E8,Ff]
 ·intro y f;exact Ba _ (Az _ f)
def zvr {x:List Lo}{S:List Int}(z:16≤R∧R≤50)(m:0≤D∧D<8)(p:¬D∈ls)(h:¬D∈S)(j:ls.length<8)(g:∀x∈ls,x<8)(pn:Bp bs n)(q:Bp bs t)(hk:k≤65536)
  (r:Hd 64 bs ((R+6)::(R+8)::(R+4)::(R+7)::D::(R+8)::S) x) (hm:∀o∈x,∀y∈E8 o,8≤y):Gd bs S ls (Nn n.p t.p k R D x) ((R+8)::S):=by
 unfold Nn;have s:Hd 64 bs S [cK (R+8) 0]:=Qu (by omega) okL_nil;have w:Hd 64 bs (D::(List.flatMap E8 [cK (R+8) 0]++S)) (Lz n.p t.p R D++x):=by
  unfold Lz;exact Ph q (by omega) (by omega) (by simp) (Ph pn (by omega) (by omega) (by simp) (bx (.inr rfl) (by omega) (by omega) (by omega) (by omega) (by omega) (by omega) (by simp) (by simp) (by simp[E8,cK]) r))
 refine (Gd.L g s ?_).cat (Gd.lp j m p ?_ (by omega) (Gd.L ?_ w ?_) ?_)
 ·simp[E8,cK];omega
 ·simp[E8,cK];exact⟨by omega,h⟩
 ·intro y f;rcases Ay.1 f with f|f
  ·exact g y f
  ·simp at f;omega
 ·intro o ho;rcases Ay.1 ho with ho|ho
  ·simp[Lz] at ho;rcases ho with rfl|rfl|rfl<;>simp[E8,E7,Fj]<;>omega
  ·exact hm o ho
 ·intro y f;exact Ba _ (Az _ f)
def Zm (m:16≤R∧R≤50)(o:0≤D∧D<8)(p:¬D∈ls)(g:ls.length<8)(f:∀x∈ls,x<8)(pd:Bp bs d)(wd:Bw bs d)(pn:Bp bs n)(j:Bp bs t)(hk:0≤k∧k<t.k):Gd bs [R] ls (Qb d.p n.p t.p k R D) [R]:=by
 have r:(t.k:Int)≤65536:=by have:=j.s;have:=j.z;omega
 unfold Qb;have s:Hd 64 bs [R+8,R] [E7 (R+7) t.p (-1) k,Fj 12 (R+6) (R+10) (R+7) R (R+8)]:=gy j (by omega) (by omega) (by omega) (bx (.inr rfl) (by omega) (by omega) (by omega) (by omega) (by omega) (by omega) (by simp) (by simp) (by simp) okL_nil);refine Gd.mono ((zvr m o p (by simp;omega) g f pn j (by omega) okL_nil (by simp)).cat ((Gd.L f s ?_).cat (zvr m o p ?_ g f pn j (by omega) ?_ ?_))) (fun x h=>h) ?_
 ·simp[E8,E7,Fj];omega
 ·simp[E8,E7,Fj];omega
 ·exact zm3 (by omega) (by omega) (by omega) (by omega) (by simp[E8,E7,Fj]) (by simp) (by simp) (Ug pd wd (by omega) (by omega) (by simp) (by simp) okL_nil)
 ·simp[E8,Fx,Ff];omega
 ·intro x q;simp at q;subst q;simp
def bo (p:16≤R∧R≤50)(q:0≤D∧D+1<8)(r:¬D∈ls)(m:¬D+1∈ls)(y:ls.length<7)(g:∀x∈ls,x<8)(pd:Bp bs d)(wd:Bw bs d)(pa:Bp bs a)(pb:Bp bs b)(pn:Bp bs n)(j:Bp bs t)(wt:Bw bs t)(hk:1≤k∧k+1<t.k)(s:0<n.k) :
  Gd bs [] ls (O2 d.p a.p b.p n.p t.p k R D) []:=by
 have z:(t.k:Int)≤65536:=by have:=j.s;have:=j.z;omega
 unfold O2;have A:Hd 64 bs [] ([cK R 0,E7 (R+10) n.p (-1) 0]++Mi (R+10) (R+1)) :=
  Qu (by omega) (gy pn (by omega) (by omega) (by omega) (Vu (by omega) (by omega) (by simp)))
 have w:∀x∈[R,R+1,R+10],x∈List.flatMap E8 ([cK R 0,E7 (R+10) n.p (-1) 0]++Mi (R+10) (R+1))++[]:=by
  intro x f;simp at f;rcases f with rfl|rfl|rfl<;>simp[E8,cK,E7,Mi,Sx,Ft,Ew]
 refine Gd.mono (Gd.cat (Gd.mono (Gd.L g A ?_) (fun x h=>h) w) ((zyi (x:=R) (by omega) (by simp) ⟨q.1,by omega⟩ r (by simp;omega) (by omega) g j wt).cat ((Gd.lp (by omega) ⟨q.1,by omega⟩ r (by simp;omega) (by omega) ((U4 p (by omega) (by omega) ?_ (by omega) ?_ ?_ pa pb j wt (by omega)).cat (Z5 p (by omega) ?_ (by omega) ?_ ?_ pn j wt hk s)) ?_).cat (Gd.mono (Zm p ⟨q.1,by omega⟩ r (by omega) g pd wd pn j (by omega)) ?_ (fun x h=>h))))) (fun x h=>h) (by simp)
 ·intro o ho;rcases Ay.1 ho with ho|ho
  ·simp at ho;rcases ho with rfl|rfl<;>simp[E8,cK,E7]<;>omega
  ·intro x f;have:=zrn o ho x f;omega
 ·simp;exact⟨m,by omega⟩
 ·simp;omega
 ·intro x f;rcases Ay.1 f with f|f
  ·exact g x f
  ·simp at f;omega
 ·simp;exact⟨m,by omega⟩
 ·simp;omega
 ·intro x f;rcases Ay.1 f with f|f
  ·exact g x f
  ·simp at f;omega
 ·intro x f;exact Az _ f
 ·intro x f;simp at f;simp[f]
end into
end Go.Sv
namespace Go.Sv
def rgR (R x:Int):Prop:=x=-1∨(R≤x∧x<R+14)
structure OpG (nb:Nat) (R lo hi:Int) (o:Lo):Prop where
 k:o.kind≠16∧o.kind≠17
 d:rgR R o.d
 e:rgR R o.e
 a:rgR R o.a∨(lo≤o.a∧o.a≤hi)
 b:rgR R o.b
 c:rgR R o.c
 m:(o.kind=14∨o.kind=15)→o.a=-1∨(lo≤o.a∧o.a≤hi)
 f:o.buf.toNat<nb
def LpG (lev:Int)(o:Lo):Prop:=o.kind=16∧o.d=lev∧o.e=-1∧o.a=-1∧o.b=-1∧o.c=-1∧1≤o.imm.toNat
section al
variable {nb : Nat} {R lo hi : Int}
end al
end Go.Sv
namespace Go.Sv
section into
variable {nb : Nat} {R lo hi D k : Int} {d a b n t : Pn}
end into
noncomputable def R3:Nat→Int→Fr Lo→Fr Lo
 |0,_,f=>f
 |n+1,i,f=>.loop (Ky i 1) (R3 n (i+1) f) N8 .nil
def Ic:Nat→Int→List Lo
 |0,_=>[]
 |n+1,i=>⟨16,i,-1,-1,-1,-1,0,1⟩::Ic n (i+1)
def wrap_flat:∀(n:Nat) (i:Int) (f:Fr Lo),(R3 n i f).flat=Ic n i++(f.flat++List.replicate n N8)
 |0,_,f=>by simp[R3,Ic]
 |n+1,i,f=>by
  rw[R3,Fr.flat,wrap_flat n,Ic,List.replicate_succ'];simp[Fr.flat,Ky,iU1]
def zwq {bs:List Bf}:∀(n:Nat) (i:Int) (ls:List Int) (f:Fr Lo),0≤i→i+n≤7→(ls.length:Int)=i→(∀x∈ls,x<i)→(∀g:List Int,(g.length:Int)=i+n→(∀x∈g,x<i+n)→Gd bs [] g f [])→Gd bs [] ls (R3 n i f) []
 |0,i,ls,f,_,_,m,l,h=>by simpa [R3] using h ls (by simpa using m) (by simpa using l)
 |n+1,i,ls,f,p,r,m,l,h=>by
  refine .loop (by omega) (by omega) (fun q=>by have:=l _ q;omega) (by omega) (Gd.mono (zwq n (i+1) (ls++[i]) f (by omega) (by omega) (by simp;omega) (fun x j=>?_) fun g s o=>?_) (by simp) (by simp)) (S':=[]) (by simp) .nil
  ·rcases Ay.1 j with q|q
   ·have:=l x q;omega
   ·simp at q;omega
  ·exact h g (by omega) fun x j=>by have:=o x j;omega
def zw4 {sz:Nat→Nat}{Q:Fs→Prop}:∀(n:Nat) (i:Nat) (f:Fr Lo) (s:Fs),(∀g:Fs,g.m=s.m→Tx sz f g Q)→Tx sz (R3 n i f) s Q
 |0,_,f,s,h=>h s rfl
 |n+1,i,f,s,h=>by
  have m:(Ky (i:Int) 1).imm.toNat=1:=by simp[Ky,iU1]
  refine .loop (I:=fun j g=>if j=0 then g=s else Q g) rfl (fun j g o l=>?_) fun g l=>?_
  ·rw[m] at o;have:j=0:=by omega
   subst this;rw[Ai rfl] at l;subst l;exact (zw4 n (i+1) f _ fun s2 p=>h s2 (by rw[p];rfl)).mono fun r q=>by simpa using q
  ·rw[m,Ab (by omega)] at l;exact .nil l
end Go.Sv
namespace Go.Sv
def rp (k:Nat):(18446744073709551616:Nat)^k=2^(64*k):=by rw[Nat.pow_mul]
def Ty {P D T N Q a inv:Nat}(hi:P*inv%N=1%N)(h:P*D+a*N=T+Q*N)(d:D<N):D=T*inv%N:=by
 have f:(P*D)%N=T%N:=by
  have:=congrArg (· % N) h;simpa using this
 have g:D*(P*inv)%N=T*inv%N:=by
  rw[show D*(P*inv)=P*D*inv by grind,B1,f,←B1]
 rw[←g,B1,hi,←B1,De,Be d]
def Y4 {f:Fr Lo}{bs:List Bf}{X:List (List UInt64)}{Q:Fs→Prop}(h:f.wf Im)(g:f.regs bs.length []=true)(j:f.costZ≤800000000)
  (p:Tx (Yj (Hy 64 bs X)) f (Kh (Hy 64 bs X)) Q) :
  ∃T d t,T≤800000000∧Ho f.flat (f.ends 0) T (Hy 64 bs X)=some d∧d.i=f.flat.length∧Rep bs.length (Yj (Hy 64 bs X)) d t∧Q t∧d.l.length≤f.costZ:=by
 have m:(Hy 64 bs X).r.length=64:=by simp[Hy]
 have a:=Rep.abs (Hy 64 bs X) m;have o:(Hy 64 bs X).bufs.length=bs.length:=by simp[Hy,K6]
 rw[o] at a;obtain⟨t,q,s⟩:=p;obtain⟨T,d,w,x,_,y,z,A⟩:=zgo (os:=f.flat) (es:=f.ends 0) f 0 [] [] [] (Hy 64 bs X) (Kh (Hy 64 bs X)) t h g (by simp) (by simp) rfl rfl a q;refine⟨T,d,t,by omega,w,by rw[x,Fr.flat_len,Bd],y,s,?_⟩;have:(Hy 64 bs X).l.length=0:=rfl;omega
def costZ_le:∀f:Fr Lo,f.costZ≤2*f.stp
 |.nil=>by simp[Fr.costZ]
 |.op _ r=>by have:=costZ_le r;rw[Fr.costZ,Fr.stp];omega
 |.loop o b _ r=>by
  have d:=costZ_le b;have g:=costZ_le r;have a:o.imm.toNat*(b.costZ+2)≤o.imm.toNat*(2*(1+b.stp)):=Nat.mul_le_mul_left _ (by omega);rw[Nat.mul_left_comm] at a;rw[Fr.costZ,Fr.stp];omega
noncomputable def xp (l:List UInt64)(i:Nat):UInt64:=if l=[] then 0 else l.getD (i%l.length) 0*iU (1+((i/l.length:Nat):Int)*2)+iU ((i/l.length:Nat):Int)
noncomputable def vt (l:List UInt64)(n:Nat):List UInt64:=(List.range n).map (xp l)
def zpi (l:List UInt64)(n:Nat):(vt l n).length=n:=by simp[vt]
def rz (d times:Int)(b:Fr Lo)(a:times≤1000000):(Gk d times b).stp≤times.toNat*(1+b.stp):=by
 unfold Gk;split
 ·simp[Fr.stp]
 ·obtain⟨n,rfl⟩:=Af (show 0≤times by omega);rw[Fr.stp,Fr.stp];have:(Ky d (n:Int)).imm.toNat=n:=O9 (by omega);rw[this];simp
section facts
variable {k y e r d : Nat}
def wrap_stp:∀(n:Nat) (i:Int) (f:Fr Lo),(R3 n i f).stp=n+f.stp
 |0,_,_=>by simp[R3]
 |n+1,i,f=>by
  rw[R3,Fr.stp,Fr.stp,wrap_stp n];have:(Ky i 1).imm.toNat=1:=by simp[Ky,iU1]
  rw[this];omega
end facts
end Go.Sv
namespace Go.Sv
def vl_get:∀{n:Nat} {f:Nat→UInt64} {l:List UInt64},l.length≤n→(∀i,i<n→f i=l.getD i 0)→vl f n=val l
 |0,f,l,h,_=>by
  have:l=[]:=A0 (by omega);subst this;simp[vl,val]
 |n+1,f,l,h,a=>by
  rw[xn];cases l with
  |nil =>
   have d:=a 0 (by omega);have g:=vl_get (n:=n) (f:=fun i=>f (i+1)) (l:=[]) (by simp) (fun i hi=>by have:=a (i+1) (by omega);simpa using this);rw[g,d];simp[val]
  |cons x l =>
   have d:=a 0 (by omega);have g:=vl_get (n:=n) (f:=fun i=>f (i+1)) (l:=l) (by simp at h;omega) (fun i hi=>by have:=a (i+1) (by omega);simpa using this);rw[g,d];simp[val]
section facts
variable {k : Nat}
end facts
end Go.Sv
namespace Go.Sv
def J2 (x:Int):Bool:=decide (x<16)
def Kf (x:Int):Bool:=decide (x<0) || decide (16≤x)
def Nz (o:Lo):Bool :=
 if o.kind=16 then decide (0≤o.d)&&decide (o.d<16)
 else if o.kind=17 then true
 else if o.kind=14∨o.kind=15 then J2 o.a&&(Kf o.d&&Kf o.e)
 else (Kf o.d&&Kf o.e) || (J2 o.a&&(J2 o.b&&J2 o.c))
structure Lock (s t:Ms):Prop where
 i:s.i=t.i
 first:s.first=t.first
 l:s.l=t.l
 rs:s.r.length=64
 rt:t.r.length=64
 low:∀x,x<16→s.r.getD x 0=t.r.getD x 0
 bufs:s.bufs.map List.length=t.bufs.map List.length
section lock
variable {s t s' t' : Ms} {os : List Lo} {es : List Int}
def Lock.at (h:Lock s t){x:Int}(hx:J2 x=true):atR s.r x=atR t.r x:=by
 unfold J2 at hx;have hx:=C8 hx;unfold atR;by_cases q:x<0
 ·rw[Ai q,Ai q]
 ·rw[Ab q,Ab q];exact h.low _ (by omega)
def Tn {r:List UInt64}{x:Int}{v:UInt64}(h:Kf x=true){y:Nat}(a:y<16):(Fb r x v).getD y 0=r.getD y 0:=by
 unfold Kf at h;simp only[Bm,Ao] at h;unfold Fb;split
 ·simp only[Ae];rw[Ad (by omega)]
 ·rfl
def zgz {r q:List UInt64}{x:Int}{v:UInt64}(d:r.length=64)(f:q.length=64)(h:∀y,y<16→r.getD y 0=q.getD y 0):∀y,y<16→(Fb r x v).getD y 0=(Fb q x v).getD y 0:=fun y a=>by
 unfold Fb;split
 ·by_cases g:x.toNat<64
  ·rw[S1 _ _ _ _ _ (by omega),S1 _ _ _ _ _ (by omega)];split
   ·rfl
   ·exact h y a
  ·rw[List.set_eq_of_length_le (by omega),List.set_eq_of_length_le (by omega)];exact h y a
 ·exact h y a
def Od {r:List UInt64}{x:Int}{v:UInt64}(h:r.length=64):(Fb r x v).length=64:=by unfold Fb;split<;>simp[h]
def Lock.row (h:Lock s t)(x:Int):(Md s.bufs x).length=(Md t.bufs x).length:=by
 have hb:=congrArg (fun l=>l.getD x.toNat 0) h.bufs;simp only[Ae,Cc] at hb;unfold Md;simp only[Ae];cases h1:s.bufs[x.toNat]?<;>cases h2:t.bufs[x.toNat]?<;>simp[h1,h2] at hb ⊢<;>first|exact hb|skip
def Lock.step (h:Lock s t)(he:∀(i:Nat) (o p:Lo),os[i]?=some o→o.kind=17→os[(es.getD i 0).toNat]?=some p→p.kind=16)(ho:∀o∈os,Nz o=true)(hs:Jc os es s=some s')(ht:Jc os es t=some t'):Lock s' t':=by
 unfold Jc at hs ht;rw[←h.i] at ht;cases aa:os[s.i]? with
 |none =>
  rw[aa] at hs ht;cases hs;cases ht;exact h
 |some o =>
 rw[aa] at hs ht;dsimp only at hs ht;have hl:=ho o (A7 aa);unfold Nz at hl;by_cases aj:o.kind=16
 ·rw[Ai aj] at hs ht hl;cases hs;cases ht;simp only[Ac,Ao] at hl;rw[←h.first];cases s.first
  ·exact⟨by simp[h.i],rfl,by simp[h.l,h.i],h.rs,h.rt,h.low,h.bufs⟩
  ·exact⟨by simp[h.i],rfl,by simp[h.l,h.i],Od h.rs,Od h.rt,zgz h.rs h.rt h.low,h.bufs⟩
 rw[Ab aj] at hs ht hl;by_cases ag:o.kind=17
 ·rw[Ai ag] at hs ht;cases hp:os[(es.getD s.i 0).toNat]? with
  |none=>rw[hp] at hs;cases hs
  |some p =>
  rw[hp] at hs ht;dsimp only at hs ht;have kp:=he _ _ _ aa ag hp;have ah:=ho p (A7 hp);unfold Nz at ah;rw[Ai kp] at ah;simp only[Ac,Ao] at ah;rw[←h.at (x:=p.d) (by unfold J2;exact B4 (by omega))] at ht;split at hs
  ·rename_i g;rw[Ai g] at ht;cases hs;cases ht;exact⟨rfl,rfl,h.l,Od h.rs,Od h.rt,zgz h.rs h.rt h.low,h.bufs⟩
  ·rename_i g;rw[Ab g] at ht;cases hs;cases ht;exact⟨by simp[h.i],h.first,h.l,h.rs,h.rt,h.low,h.bufs⟩
 rw[Ab ag] at hs ht hl;unfold M3 at hs ht;by_cases ad:o.kind=14
 ·rw[Ai (.inl ad)] at hl;simp only[Ac] at hl;rw[Ai ad,←h.at hl.1,←h.row] at ht;rw[Ai ad] at hs;split at hs
  ·rename_i g;rw[Ai g] at ht;cases hs;cases ht;exact⟨by simp[h.i],h.first,by simp[h.l,h.i],Od (Od h.rs),Od (Od h.rt),fun x hx=>by rw[Tn hl.2.2 hx,Tn hl.2.1 hx,Tn hl.2.2 hx,Tn hl.2.1 hx];exact h.low x hx,h.bufs⟩
  ·cases hs
 rw[Ab ad] at hs ht;by_cases af:o.kind=15
 ·rw[Ai (.inr af)] at hl;simp only[Ac] at hl;rw[Ai af,←h.at hl.1,←h.row] at ht;rw[Ai af] at hs;split at hs
  ·rename_i g;rw[Ai g] at ht;cases hs;cases ht;refine⟨by simp[h.i],h.first,by simp[h.l,h.i],Od (Od h.rs),Od (Od h.rt),fun x hx=>by rw[Tn hl.2.2 hx,Tn hl.2.1 hx,Tn hl.2.2 hx,Tn hl.2.1 hx];exact h.low x hx,?_⟩;simp only[B0,Ce];rw[h.row,h.bufs]
  ·cases hs
 rw[Ab af] at hs ht;rw[Ab (by omega)] at hl;cases hs;cases ht;simp only[Bm,Ac] at hl;refine⟨by simp[h.i],h.first,by simp[h.l,h.i],Od (Od h.rs),Od (Od h.rt),fun x hx=>?_,h.bufs⟩;rcases hl with ⟨h1,h2⟩|⟨h1,h2,h3⟩
 ·show (Fb (Fb s.r o.d _) o.e _).getD x 0=(Fb (Fb t.r o.d _) o.e _).getD x 0;rw[Tn h2 hx,Tn h1 hx,Tn h2 hx,Tn h1 hx];exact h.low x hx
 ·show (Fb (Fb s.r o.d _) o.e _).getD x 0=(Fb (Fb t.r o.d _) o.e _).getD x 0;rw[h.at h1,h.at h2,h.at h3];exact zgz (Od h.rs) (Od h.rt) (zgz h.rs h.rt h.low) x hx
def Lock.step_some (h:Lock s t)(ho:∀o∈os,Nz o=true)(hs:Jc os es s=some s'):∃t',Jc os es t=some t':=by
 unfold Jc at hs ⊢;rw[←h.i];cases af:os[s.i]? with
 |none=>exact⟨_,rfl⟩
 |some o =>
 rw[af] at hs;dsimp only at hs ⊢;have hl:=ho o (A7 af);unfold Nz at hl;by_cases ag:o.kind=16
 ·rw[Ai ag];exact⟨_,rfl⟩
 rw[Ab ag] at hs hl ⊢;by_cases ah:o.kind=17
 ·rw[Ai ah] at hs ⊢;cases hp:os[(es.getD s.i 0).toNat]? with
  |none=>rw[hp] at hs;cases hs
  |some p =>
   dsimp only;split<;>exact⟨_,rfl⟩
 rw[Ab ah] at hs hl ⊢;unfold M3 at hs ⊢;by_cases aa:o.kind=14
 ·rw[Ai (.inl aa)] at hl;simp only[Ac] at hl;rw[Ai aa] at hs ⊢;rw[←h.at hl.1,←h.row];split at hs
  ·rename_i g;rw[Ai g];exact⟨_,rfl⟩
  ·cases hs
 rw[Ab aa] at hs ⊢;by_cases ad:o.kind=15
 ·rw[Ai (.inr ad)] at hl;simp only[Ac] at hl;rw[Ai ad] at hs ⊢;rw[←h.at hl.1,←h.row];split at hs
  ·rename_i g;rw[Ai g];exact⟨_,rfl⟩
  ·cases hs
 rw[Ab ad];exact⟨_,rfl⟩
def Lock.run_some (he:∀(i:Nat) (o p:Lo),os[i]?=some o→o.kind=17→os[(es.getD i 0).toNat]?=some p→p.kind=16)(ho:∀o∈os,Nz o=true):∀(n:Nat) (s t s':Ms),Lock s t→Ho os es n s=some s'→∃t',Ho os es n t=some t'∧Lock s' t'
 |0,s,t,s',h,hs=>by cases hs;exact⟨t,rfl,h⟩
 |n+1,s,t,s',h,hs=>by
  unfold Ho at hs ⊢;split at hs
  ·cases hs
  ·rename_i s1 h1;obtain⟨t1,h2⟩:=h.step_some ho h1;rw[h2];exact Lock.run_some he ho n s1 t1 s' (h.step he ho h1 h2) hs
def stay {os:List Lo}{es:List Int}{s:Ms}(h:os[s.i]?=none):∀n,Ho os es n s=some s
 |0=>rfl
 |n+1=>by
  have:Jc os es s=some s:=by unfold Jc;rw[h]
  unfold Ho;rw[this];exact stay h n
end lock
end Go.Sv
namespace Go.Sv
section facts
variable {bs : List Bf} {d a b n t : Pn} {k R e nb : Nat}
end facts
end Go.Sv
namespace Go.Sv
def zuz {bs:List Bf}{X Y:List (List UInt64)}(h:∀i,i<bs.length→(X.getD i []).length=(Y.getD i []).length):Lock (Hy 64 bs X) (Hy 64 bs Y):=by
 refine⟨rfl,rfl,rfl,by simp[Hy],by simp[Hy],fun x _=>rfl,?_⟩;show (K6 bs X bs.length).map List.length=(K6 bs Y bs.length).map List.length;unfold K6;rw[List.map_map,List.map_map];refine List.map_congr_left fun i hi=>?_
 have:=h i (Cp.1 hi);simp only[Function.comp,Nl,Aj,List.length_replicate];omega
def zwb {f:Fr Lo}(hw:f.wf Im):∀(i:Nat) (o p:Lo),f.flat[i]?=some o→o.kind=17→f.flat[((f.ends 0).getD i 0).toNat]?=some p→p.kind=16:=fun i o p ho hk a=>by
 obtain⟨k,j,d,g,h⟩:=ends_at f 0 i o hw ho hk;rw[Ae,d] at a;simp only[B9,A9,Bd] at a;rw[g] at a;rw[←Option.some.inj a];exact h
def Se {os:List Lo}{es:List Int}{b:Nat}(l:∀o∈os,¬(o.kind=15∧o.buf.toNat=b)){s m:Ms}(h:Jc os es s=some m):m.bufs.getD b []=s.bufs.getD b []∧m.bufs.length=s.bufs.length:=by
 unfold Jc at h;cases a:os[s.i]? with
 |none=>rw[a] at h;cases h;exact⟨rfl,rfl⟩
 |some o =>
 rw[a] at h;dsimp only at h;have p:=l o (A7 a);by_cases f:o.kind=16
 ·rw[Ai f] at h;cases h;exact⟨rfl,rfl⟩
 rw[Ab f] at h;by_cases g:o.kind=17
 ·rw[Ai g] at h;split at h
  ·cases h
  ·split at h<;>(cases h;exact⟨rfl,rfl⟩)
 rw[Ab g] at h;unfold M3 at h;by_cases j:o.kind=14
 ·rw[Ai j] at h;split at h
  ·cases h;exact⟨rfl,rfl⟩
  ·cases h
 rw[Ab j] at h;by_cases d:o.kind=15
 ·rw[Ai d] at h;split at h
  ·cases h;refine⟨?_,by simp⟩;simp only[Ae];rw[Ad (fun q=>p ⟨d,q⟩)]
  ·cases h
 rw[Ab d] at h;cases h;exact⟨rfl,rfl⟩
def zsl {os:List Lo}{es:List Int}{b:Nat}(d:∀o∈os,¬(o.kind=15∧o.buf.toNat=b)):∀(n:Nat) (s a:Ms),Ho os es n s=some a→a.bufs.getD b []=s.bufs.getD b []∧a.bufs.length=s.bufs.length
 |0,s,a,h=>by cases h;exact⟨rfl,rfl⟩
 |n+1,s,a,h=>by
  unfold Ho at h;split at h
  ·cases h
  ·rename_i s1 f;obtain⟨g,j⟩:=Se d f;obtain⟨l,m⟩:=zsl d n s1 a h;exact⟨l.trans g,m.trans j⟩
def Pa (sz:Nat→Nat):(Nat→Option Nat)→Fr Lo→Prop
 |_,.nil=>True
 |bd,.op o r=>(Kf o.d=true∧Kf o.e=true)∧(o.kind=14∨o.kind=15→(o.a=-1∧o.imm.toNat<sz o.buf.toNat)∨∃x m:Nat,o.a=x∧x<16∧bd x=some m∧o.imm.toNat+m≤sz o.buf.toNat∧sz o.buf.toNat≤65536)∧Pa sz bd r
 |bd,.loop o b _ r=>((0≤o.d∧o.d<16)∧b.noW o.d.toNat=true)∧Pa sz (fun x=>if x=o.d.toNat then some o.imm.toNat else bd x) b∧Pa sz (fun x=>if x=o.d.toNat then none else bd x) r
def zr3 (bd:Nat→Option Nat)(s:Fs):Prop:=∀x m,x<16→bd x=some m→(s.r x).toNat<m
def vx {s:Fs}{d:Int}{v:UInt64}(h:Kf d=true){x:Nat}(a:x<16):(Ja s d v).r x=s.r x:=by
 unfold Kf at h;simp only[Bm,Ao] at h;exact qq (by omega)
def ff {sz:Nat→Nat}{bd:Nat→Option Nat}{o:Lo}{s:Fs}(p:zr3 bd s)(hd:Kf o.d=true)(he:Kf o.e=true)
  (hm:o.kind=14∨o.kind=15→(o.a=-1∧o.imm.toNat<sz o.buf.toNat)∨∃x m:Nat,o.a=x∧x<16∧bd x=some m∧o.imm.toNat+m≤sz o.buf.toNat∧sz o.buf.toNat≤65536):∃l,Ih sz o s=some l∧∀x,x<16→l.r x=s.r x:=by
 have g:o.kind=14∨o.kind=15→(o.imm+Kw s o.a).toNat<sz o.buf.toNat:=fun hk=>by
  rcases hm hk with ⟨e,h⟩|⟨x,m,e,a,j,q,r⟩
  ·unfold Kw;rw[e,Ai (by decide),UInt64.add_zero];exact h
  ·have w:=p x m a j;unfold Kw;rw[e,Ab (by omega),A9,Bt,Be (by omega)];omega
 unfold Ih;by_cases d:o.kind=14
 ·rw[Ai d,Ai (g (.inl d))];exact⟨_,rfl,fun x a=>by rw[vx he a,vx hd a]⟩
 rw[Ab d];by_cases f:o.kind=15
 ·rw[Ai f,Ai (g (.inr f))];exact⟨_,rfl,fun x a=>by rw[vx he a,vx hd a];rfl⟩
 rw[Ab f];exact⟨_,rfl,fun x a=>by rw[vx he a,vx hd a]⟩
def zdw {sz:Nat→Nat}:∀(f:Fr Lo) (bd:Nat→Option Nat) (s:Fs),Pa sz bd f→zr3 bd s→(∀x m,bd x=some m→f.noW x=true)→∃w,Lf sz f s=some w∧∀x m,x<16→bd x=some m→w.r x=s.r x
 |.nil,_,s,_,_,_=>⟨s,rfl,fun _ _ _ _=>rfl⟩
 |.op o r,bd,s,h,y,hw=>by
  obtain⟨⟨F,G⟩,D,E⟩:=h;obtain⟨s1,z,p⟩:=ff y F G D;obtain⟨s2,A,B⟩:=zdw r bd s1 E (fun x m d a=>by rw[p x d];exact y x m d a) (fun x m a=>by
   have:=hw x m a;simp only[Fr.noW,Ac] at this;exact this.2.2)
  refine⟨s2,?_,fun x m d a=>(B x m d a).trans (p x d)⟩;unfold Lf;rw[z];exact A
 |.loop o b e r,bd,s,h,y,hw=>by
  obtain⟨⟨⟨F,G⟩,H⟩,D,E⟩:=h;have g:∀x m,bd x=some m→x≠o.d.toNat∧b.noW x=true∧r.noW x=true:=fun x m a=>by
   have:=hw x m a;simp only[Fr.noW,Ac,Bs,Bl] at this;exact⟨fun q=>this.1 q.symm,this.2.1,this.2.2⟩
  have I:=o.imm.toNat_lt;have rounds:∀(n j:Nat) (s:Fs),j+n=o.imm.toNat→zr3 bd s→∃w,We (Lf sz b) o.d.toNat n j s=some w∧∀x m,x<16→bd x=some m→w.r x=s.r x:=by
   intro n
   induction n with
   |zero=>intro j s _ _;exact⟨s,rfl,fun _ _ _ _=>rfl⟩
   |succ n J =>
    intro j s K C;have l:∀x,(s.put o.d.toNat (UInt64.ofNat j)).r x=if x=o.d.toNat then UInt64.ofNat j else s.r x:=fun x=>rfl
    obtain⟨s1,z,p⟩:=zdw b _ (s.put o.d.toNat (UInt64.ofNat j)) D (fun x m d a=>by
     rw[l];by_cases q:x=o.d.toNat
     ·rw[Ai q] at a ⊢;cases a;rw[By];rw[Be (by omega)];omega
     ·rw[Ab q] at a ⊢;exact C x m d a) (fun x m a=>by
     by_cases q:x=o.d.toNat
     ·rw[q];exact H
     ·rw[Ab q] at a;exact (g x m a).2.1)
    have keep:∀x m,x<16→bd x=some m→s1.r x=s.r x:=fun x m d a=>by
     have q:=(g x m a).1;rw[p x m d (by rw[Ab q];exact a),l,Ab q]
    obtain⟨s2,A,B⟩:=J (j+1) s1 (by omega) (fun x m d a=>by rw[keep x m d a];exact C x m d a);refine⟨s2,?_,fun x m d a=>(B x m d a).trans (keep x m d a)⟩;unfold We;rw[z];exact A
  obtain⟨s1,z,p⟩:=rounds o.imm.toNat 0 s (by omega) y;obtain⟨s2,A,B⟩:=zdw r _ s1 E (fun x m d a=>by
   by_cases q:x=o.d.toNat
   ·rw[Ai q] at a;cases a
   ·rw[Ab q] at a;rw[p x m d a];exact y x m d a) (fun x m a=>by
   by_cases q:x=o.d.toNat
   ·rw[Ai q] at a;cases a
   ·rw[Ab q] at a;exact (g x m a).2.2)
  refine⟨s2,?_,fun x m d a=>?_⟩
  ·unfold Lf;rw[z];exact A
  ·have q:=(g x m a).1;rw[B x m d (by rw[Ab q];exact a)];exact p x m d a
def J5 (sz:Nat→Nat)(bd:Nat→Option Nat)(o:Lo):Prop:=(Kf o.d=true∧Kf o.e=true)∧(o.kind=14∨o.kind=15→(o.a=-1∧o.imm.toNat<sz o.buf.toNat)∨∃x m:Nat,o.a=x∧x<16∧bd x=some m∧o.imm.toNat+m≤sz o.buf.toNat∧sz o.buf.toNat≤65536)
section run
variable {sz : Nat → Nat} {bd : Nat → Option Nat}
def safe_L:∀{l:List Lo},(∀o∈l,J5 sz bd o)→Pa sz bd (E4 l)
 |[],_=>trivial
 |o::_,h=>⟨(h o (B5 ..)).1,(h o (B5 ..)).2,safe_L fun x a=>h x (Az _ a)⟩
def safe_cat:∀{f g:Fr Lo} {bd:Nat→Option Nat},Pa sz bd f→(∀a:Nat→Option Nat,(∀x m,bd x=some m→f.noW x=true→a x=some m)→Pa sz a g)→Pa sz bd (f.cat g)
 |.nil,_,bd,_,h=>h bd fun _ _ e _=>e
 |.op o r,g,bd,d,h=>⟨d.1,d.2.1,safe_cat d.2.2 fun a l=>h a fun x m e j=>l x m e (by
   simp only[Fr.noW,Ac] at j;exact j.2.2)⟩
 |.loop o b e r,g,bd,d,h=>⟨d.1,d.2.1,safe_cat d.2.2 fun a l=>h a fun x m q j=>by
   simp only[Fr.noW,Ac,Bs,Bl] at j;exact l x m (by rw[Ab (fun w=>j.1 w.symm)];exact q) j.2.2⟩
def oq {D:Nat}(d:D<16):∀{l:List Lo},(∀o∈l,Kf o.d=true∧Kf o.e=true)→(E4 l).noW D=true
 |[],_=>rfl
 |o::l,h=>by
  have a:=h o (B5 ..);have f:=oq d (l:=l) fun x g=>h x (Az _ g)
  unfold Kf at a;simp only[Bm,Ao] at a;show (!decide (o.d=D)&&(!decide (o.e=D)&&(E4 l).noW D))=true;rw[f];simp;omega
def na {D:Nat}:∀(f g:Fr Lo),(f.cat g).noW D=(f.noW D&&g.noW D)
 |.nil,g=>by simp[Fr.cat,Fr.noW]
 |.op o r,g=>by simp only[Fr.cat,Fr.noW,na r g,Bool.and_assoc]
 |.loop o b e r,g=>by simp only[Fr.cat,Fr.noW,na r g,Bool.and_assoc]
def qy {D E n:Nat}{b:Fr Lo}(h:E≠D)(a:b.noW D=true):(Gk (E:Nat) (n:Nat) b).noW D=true:=by
 unfold Gk;split
 ·rfl
 ·simp[Fr.noW,Ky,a,h]
def zzx {D n:Nat}{b:Fr Lo}(h:D<16)(j:n<1000000)(hw:b.noW D=true)(a:Pa sz (fun x=>if x=D then some n else bd x) b):Pa sz bd (Gk (D:Nat) (n:Nat) b):=by
 unfold Gk;split
 ·trivial
 ·refine⟨⟨⟨by show (0:Int)≤D;omega,by show (D:Int)<16;omega⟩,hw⟩,?_,trivial⟩;have f:(Ky (D:Nat) (n:Nat)).d.toNat=D:=by simp[Ky]
  have g:(Ky (D:Nat) (n:Nat)).imm.toNat=n:=O9 (by omega);rw[f,g];exact a
def Zq {x:Int}(h:16≤x):Kf x=true:=by unfold Kf;simp;omega
def high_m1:Kf (-1)=true:=by decide
def x9 {o:Lo}(hk:o.kind≠14∧o.kind≠15)(hd:Kf o.d=true)(he:Kf o.e=true):J5 sz bd o:=⟨⟨hd,he⟩,fun h=>by omega⟩
def zt1 {p:Pn}{off:Nat}(h:p.a+off<18446744073709551616):(iU (p.p.at_+(off:Int))).toNat=p.a+off:=Qw h
def te {p:Pn}{d:Int}{off:Nat}(hd:16≤d)(h:p.a+off<sz p.b)(a:sz p.b≤65536):J5 sz bd (E7 d p.p (-1) (off:Nat)) :=
 ⟨⟨Zq hd,high_m1⟩,fun _=>.inl ⟨rfl,by show (iU (p.p.at_+(off:Int))).toNat<sz p.b;rw[zt1 (by omega)];exact h⟩⟩
def qp {p:Pn}{d:Int}{x m off:Nat}(hd:16≤d)(a:x<16)(f:bd x=some m)(h:p.a+off+m≤sz p.b)(g:sz p.b≤65536):J5 sz bd (E7 d p.p (x:Nat) (off:Nat)) :=
 ⟨⟨Zq hd,high_m1⟩,fun _=>.inr ⟨x,m,rfl,a,f,by show (iU (p.p.at_+(off:Int))).toNat+m≤sz p.b;rw[zt1 (by omega)];exact h,g⟩⟩
def zlt {p:Pn}{v:Int}{off:Nat}(h:p.a+off<sz p.b)(a:sz p.b≤65536):J5 sz bd (Ff p.p (-1) (off:Nat) v) :=
 ⟨⟨high_m1,high_m1⟩,fun _=>.inl ⟨rfl,by show (iU (p.p.at_+(off:Int))).toNat<sz p.b;rw[zt1 (by omega)];exact h⟩⟩
def zm7 {p:Pn}{v:Int}{x m off:Nat}(a:x<16)(d:bd x=some m)(h:p.a+off+m≤sz p.b)(f:sz p.b≤65536):J5 sz bd (Ff p.p (x:Nat) (off:Nat) v) :=
 ⟨⟨high_m1,high_m1⟩,fun _=>.inr ⟨x,m,rfl,a,d,by show (iU (p.p.at_+(off:Int))).toNat+m≤sz p.b;rw[zt1 (by omega)];exact h,f⟩⟩
def ok_nil:∀o∈([]:List Lo),J5 sz bd o:=fun _ h=>by cases h
def Ia {o:Lo}{l:List Lo}(h:J5 sz bd o)(k:∀x∈l,J5 sz bd x):∀x∈o::l,J5 sz bd x:=fun x a=>by
 rcases An.1 a with rfl|a
 ·exact h
 ·exact k x a
def Uo {l r:List Lo}(h:∀x∈l,J5 sz bd x)(k:∀x∈r,J5 sz bd x):∀x∈l++r,J5 sz bd x:=fun x a=>(Ay.1 a).elim (h x) (k x)
def P9 {d:Int}{v:UInt64}(h:16≤d):J5 sz bd (cK d v):=x9 (by simp[cK]) (Zq h) high_m1
def yg {h l a b:Int}(d:16≤h)(f:16≤l):J5 sz bd (Ft h l a b):=x9 (by simp[Ft]) (Zq d) (Zq f)
def u9 {k d o a b c:Int}(hk:k≠14∧k≠15)(hd:16≤d)(ho:16≤o):J5 sz bd (Fj k d o a b c):=x9 hk (Zq hd) (Zq ho)
def ue {k d a b:Int}(hk:k≠14∧k≠15)(hd:16≤d):J5 sz bd (Ew k d a b):=x9 hk (Zq hd) high_m1
def og {d c a b:Int}(hd:16≤d):J5 sz bd (Fx d c a b):=x9 (by simp[Fx]) (Zq hd) high_m1
def zro {R a b:Int}(d:16≤R):∀o∈Fw R a b,J5 sz bd o :=
 Ia (yg (by omega) (by omega)) (Ia (u9 (by omega) (by omega) (by omega)) (Ia (u9 (by omega) (by omega) (by omega)) (Ia (ue (by omega) (by omega)) (Ia (ue (by omega) (by omega)) ok_nil))))
def zgy {D n:Nat}{L:List Lo}(d:D<16)(f:n<1000000)(h:∀a:Nat→Option Nat,a D=some n→∀o∈L,J5 sz a o):Pa sz bd (Gk (D:Nat) (n:Nat) (E4 L)) :=
 zzx d f (oq d fun o ho=>(h (fun _=>some n) rfl o ho).1) (safe_L (h _ (Ai rfl)))
def zz1 {D E n:Nat}{L:List Lo}(d:E<16)(a:D≠E)(h:∀o∈L,Kf o.d=true∧Kf o.e=true):(Gk (D:Nat) (n:Nat) (E4 L)).noW E=true:=qy a (oq d h)
def zkx {R D i k:Nat}{a b t:Pn}(F:16≤R)(d:D<16)(hi:i<16)(w:b.in_ sz)(x:a.in_ sz)(y:t.in_ sz){m:Nat}(f:bd i=some m)(hm:m≤b.k)(hk:k≤a.k)(z:k+2≤t.k)(g:k<1000000) :
  Pa sz bd (Lk a.p b.p t.p (k:Nat) (R:Nat) (D:Nat) (i:Nat))∧∀E,E<16→D≠E→(Lk a.p b.p t.p (k:Nat) (R:Nat) (D:Nat) (i:Nat)).noW E=true:=by
 obtain⟨G,A⟩:=w;obtain⟨H,B⟩:=x;obtain⟨t1,t2⟩:=y;have q:∀bd:Nat→Option Nat,bd i=some m→∀o∈[E7 ((R:Nat)+2:Int) b.p (i:Nat) ((0:Nat):Int),cK ((R:Nat)+3:Int) 0],J5 sz bd o:=fun bd h =>
  Ia (qp (by omega) hi h (by omega) A) (Ia (P9 (by omega)) ok_nil)
 have r:∀bd:Nat→Option Nat,bd D=some k→∀o∈Lr a.p t.p (R:Nat) (D:Nat),J5 sz bd o:=fun bd h =>
  Uo (Ia (qp (off:=0) (by omega) d h (by omega) B) (Ia (qp (off:=0) (by omega) d h (by omega) t2) ok_nil)) (Uo (zro (by omega)) (Ia (zm7 (off:=0) d h (by omega) t2) ok_nil))
 have s:∀bd:Nat→Option Nat,∀o∈Gt t.p (k:Nat) (R:Nat)++[Ff t.p (-1) (k:Nat) ((R:Nat)+7),Ff t.p (-1) ((k+1:Nat):Int) ((R:Nat)+8)],J5 sz bd o:=fun bd =>
  Uo (Ia (te (by omega) (by omega) t2) (Ia (u9 (by omega) (by omega) (by omega)) ok_nil)) (Ia (zlt (by omega) t2) (Ia (zlt (by omega) t2) ok_nil))
 refine⟨safe_cat (safe_L (q bd f)) fun C _=>safe_cat (zgy d g r) fun j _=>safe_L (s j),fun E l p=>?_⟩;have e:Lk a.p b.p t.p (k:Nat) (R:Nat) (D:Nat) (i:Nat)=(E4 [E7 ((R:Nat)+2:Int) b.p (i:Nat) ((0:Nat):Int),cK ((R:Nat)+3:Int) 0]).cat ((Gk (D:Nat) (k:Nat) (E4 (Lr a.p t.p (R:Nat) (D:Nat)))).cat
   (E4 (Gt t.p (k:Nat) (R:Nat)++[Ff t.p (-1) (k:Nat) ((R:Nat)+7),Ff t.p (-1) ((k+1:Nat):Int) ((R:Nat)+8)]))):=rfl
 rw[e,na,na,oq l fun o ho=>(q (fun _=>some m) rfl o ho).1,zz1 l p fun o ho=>(r (fun _=>some k) rfl o ho).1,oq l fun o ho=>(s bd o ho).1];rfl
def zop {R D k:Nat}{n t:Pn}(z:16≤R)(a:D<16)(r:n.in_ sz)(s:t.in_ sz)(hk:k+1≤n.k)(w:k+3≤t.k)(d:k<1000000) :
  Pa sz bd (Ly n.p t.p ((k+1:Nat):Int) (R:Nat) (D:Nat))∧∀E,E<16→D≠E→(Ly n.p t.p ((k+1:Nat):Int) (R:Nat) (D:Nat)).noW E=true:=by
 obtain⟨A,l⟩:=r;obtain⟨t1,t2⟩:=s;have x:((k+1:Nat):Int) - 1=(k:Nat):=by omega
 have m:∀bd:Nat→Option Nat,∀o∈[E7 ((R:Nat)+7:Int) t.p (-1) ((0:Nat):Int),Ft ((R:Nat)+5) ((R:Nat)+10) ((R:Nat)+7) ((R:Nat)+1),E7 ((R:Nat)+4:Int) n.p (-1) ((0:Nat):Int),cK ((R:Nat)+3) 0]++Fw (R:Nat) ((R:Nat)+10) ((R:Nat)+4),J5 sz bd o:=fun bd =>
  Uo (Ia (te (by omega) (by omega) t2) (Ia (yg (by omega) (by omega)) (Ia (te (by omega) (by omega) l) (Ia (P9 (by omega)) ok_nil)))) (zro (by omega))
 have p:∀bd:Nat→Option Nat,bd D=some k→∀o∈Mh n.p t.p (R:Nat) (D:Nat),J5 sz bd o:=fun bd h =>
  Uo (Ia (qp (off:=1) (by omega) a h (by omega) l) (Ia (qp (off:=1) (by omega) a h (by omega) t2) ok_nil)) (Uo (zro (by omega)) (Ia (zm7 (off:=0) a h (by omega) t2) ok_nil))
 have q:∀bd:Nat→Option Nat,∀o∈Gt t.p ((k+1:Nat):Int) (R:Nat)++[Ff t.p (-1) ((k:Nat):Int) ((R:Nat)+7),E7 ((R:Nat)+7) t.p (-1) ((k+2:Nat):Int),Ew 3 ((R:Nat)+7) ((R:Nat)+7) ((R:Nat)+8),Ff t.p (-1) ((k+1:Nat):Int) ((R:Nat)+7)],J5 sz bd o:=fun bd =>
  Uo (Ia (te (by omega) (by omega) t2) (Ia (u9 (by omega) (by omega) (by omega)) ok_nil)) (Ia (zlt (by omega) t2) (Ia (te (by omega) (by omega) t2) (Ia (ue (by omega) (by omega)) (Ia (zlt (by omega) t2) ok_nil))))
 have e:Ly n.p t.p ((k+1:Nat):Int) (R:Nat) (D:Nat)=(E4 ([E7 ((R:Nat)+7:Int) t.p (-1) ((0:Nat):Int),Ft ((R:Nat)+5) ((R:Nat)+10) ((R:Nat)+7) ((R:Nat)+1),E7 ((R:Nat)+4:Int) n.p (-1) ((0:Nat):Int),cK ((R:Nat)+3) 0]++Fw (R:Nat) ((R:Nat)+10) ((R:Nat)+4))).cat
   ((Gk (D:Nat) (k:Nat) (E4 (Mh n.p t.p (R:Nat) (D:Nat)))).cat (E4 (Gt t.p ((k+1:Nat):Int) (R:Nat)++[Ff t.p (-1) ((k:Nat):Int) ((R:Nat)+7),E7 ((R:Nat)+7) t.p (-1) ((k+2:Nat):Int),Ew 3 ((R:Nat)+7) ((R:Nat)+7) ((R:Nat)+8),Ff t.p (-1) ((k+1:Nat):Int) ((R:Nat)+7)]))):=by
  unfold Ly;rw[x];rfl
 rw[e];refine⟨safe_cat (safe_L (m bd)) fun y _=>safe_cat (zgy a d p) fun f _=>safe_L (q f),fun E g j=>?_⟩;rw[na,na,oq g fun o ho=>(m bd o ho).1,zz1 g j fun o ho=>(p (fun _=>some k) rfl o ho).1,oq g fun o ho=>(q bd o ho).1];rfl
end run
end Go.Sv
namespace Go.Sv
section run
variable {sz : Nat → Nat} {bd : Nat → Option Nat}
def zpq {R D k:Nat}{n t:Pn}{x:List Lo}(r:16≤R)(a:D<16)(f:n.in_ sz)(g:t.in_ sz)(hk:k≤n.k)(j:k≤t.k)(d:k<1000000)(l:∀bd:Nat→Option Nat,bd D=some k→∀o∈x,J5 sz bd o) :
  Pa sz bd (Nn n.p t.p (k:Nat) (R:Nat) (D:Nat) x):=by
 obtain⟨s,m⟩:=f;obtain⟨t1,t2⟩:=g;have p:∀bd:Nat→Option Nat,bd D=some k→∀o∈Lz n.p t.p (R:Nat) (D:Nat)++x,J5 sz bd o:=fun bd h =>
  Uo (Ia (qp (off:=0) (by omega) a h (by omega) t2) (Ia (qp (off:=0) (by omega) a h (by omega) m) (Ia (u9 (by omega) (by omega) (by omega)) ok_nil))) (l bd h)
 exact safe_cat (safe_L (Ia (P9 (by omega)) ok_nil)) fun q _=>zgy a d p
def zzt {R D k:Nat}{d n t:Pn}(j:16≤R)(g:D<16)(hd:d.in_ sz)(l:n.in_ sz)(f:t.in_ sz)(hk:k≤n.k)(m:k+1≤t.k)(o:k≤d.k)(a:k<1000000) :
  Pa sz bd (Qb d.p n.p t.p (k:Nat) (R:Nat) (D:Nat)):=by
 unfold Qb;refine safe_cat (zpq j g l f hk (by omega) a fun _ _=>ok_nil) fun p _=>safe_cat (safe_L (Ia (te (by omega) (by have:=f.1;omega) f.2) (Ia (u9 (by omega) (by omega) (by omega)) ok_nil))) fun q _=>zpq j g l f hk (by omega) a fun bd h=>?_
 exact Ia (og (by omega)) (Ia (zm7 (off:=0) g h (by have:=hd.1;omega) hd.2) ok_nil)
def Zx {n r:Int}(h:16≤r):∀o∈Mi n r,J5 sz bd o:=by
 have a:∀i,∀o∈Pu n r i,J5 sz bd o:=fun i o ho=>by
  unfold Pu at ho;obtain⟨_,_,ho⟩:=List.mem_flatMap.1 ho;exact Ia (yg (by omega) (by omega)) (Ia (ue (by omega) (by omega)) (Ia (yg (by omega) (by omega)) ok_nil)) o ho
 unfold Mi;exact Uo (Ia (P9 (by omega)) (Ia (yg (by omega) (by omega)) (Ia (P9 (by omega)) (Ia (ue (by omega) (by omega)) ok_nil)))) (Uo (a 5) (Ia (P9 (by omega)) (Ia (ue (by omega) (by omega)) ok_nil)))
def zzy {R D k:Nat}{d a b n t:Pn}(g:16≤R)(l:D+1<16)(hd:d.in_ sz)(q:a.in_ sz)(r:b.in_ sz)(j:n.in_ sz)(f:t.in_ sz)(x:k+1≤d.k)(s:k+1≤a.k)(kb:k+1≤b.k)(o:k+1≤n.k)(w:k+3≤t.k)(p:t.k<1000000) :
  Pa sz bd (O2 d.p a.p b.p n.p t.p (k+1:Nat) (R:Nat) (D:Nat)):=by
 have e:O2 d.p a.p b.p n.p t.p (k+1:Nat) (R:Nat) (D:Nat)=(E4 ([cK (R:Nat) 0,E7 ((R:Nat)+10:Int) n.p (-1) ((0:Nat):Int)]++Mi ((R:Nat)+10:Int) ((R:Nat)+1:Int))).cat ((Gk (D:Nat) (t.k:Nat) (E4 [Ff t.p (D:Nat) ((0:Nat):Int) (R:Nat)])).cat ((Gk (D:Nat) (k+1:Nat) ((Lk a.p b.p t.p (k+1:Nat) (R:Nat) ((D+1:Nat):Int) (D:Nat)).cat (Ly n.p t.p (k+1:Nat) (R:Nat) ((D+1:Nat):Int)))).cat (Qb d.p n.p t.p (k+1:Nat) (R:Nat) (D:Nat)))):=rfl;rw[e];refine safe_cat (safe_L (Uo (Ia (P9 (by omega)) (Ia (te (by omega) (by have:=j.1;omega) j.2) ok_nil)) (Zx (by omega)))) fun y _=>?_
 refine safe_cat (zgy (by omega) p fun bd h=>Ia (zm7 (off:=0) (by omega) h (by have:=f.1;omega) f.2) ok_nil) fun z _=>?_
 refine safe_cat (zzx (by omega) (by omega) ?_ ?_) fun A _=>zzt g (by omega) hd j f o (by omega) x (by omega)
 ·have B:=(zkx (sz:=sz) (bd:=fun _=>some (k+1)) (R:=R) (D:=D+1) (i:=D) (k:=k+1) g l (by omega) r q f rfl kb s (by omega) (by omega)).2 D (by omega) (by omega);have C:=(zop (sz:=sz) (bd:=fun _=>some (k+1)) (R:=R) (D:=D+1) (k:=k) g l j f o w (by omega)).2 D (by omega) (by omega);rw[na,B,C];rfl
 ·refine safe_cat (zkx g l (by omega) r q f (m:=k+1) (Ai rfl) kb s (by omega) (by omega)).1 fun E _=>(zop g l j f o w (by omega)).1
end run
end Go.Sv
namespace Go.Sv
structure Cf where
 nb:Nat
 R:Int
 w:Int
 lo:Int
 hi:Int
 pa:Int
 pb:Int
 L:Nat→Prop
 S:Nat→Prop
def I5 (c:Cf)(x:Int):Prop:=c.R≤x∧x<c.R+c.w
def M6 (c:Cf)(x:Int):Prop:=(c.lo≤x∧x≤c.hi)∨(c.pa≤x∧x≤c.pb)
def L9 (c:Cf)(x:Int):Prop:=x=-1∨I5 c x∨M6 c x
def hiO (c:Cf)(o:Lo):Prop:=(o.d=-1∨I5 c o.d)∧(o.e=-1∨I5 c o.e)∧(o.kind=14∨o.kind=15→o.a=-1∨M6 c o.a)
def plO (c:Cf)(o:Lo):Prop:=(o.kind≠14∧o.kind≠15)∧(c.pa≤o.d∧o.d≤c.pb)∧o.e=-1∧(o.a=-1∨M6 c o.a)∧(o.b=-1∨M6 c o.b)∧(o.c=-1∨M6 c o.c)
structure OpH (c:Cf) (o:Lo):Prop where
 k:o.kind≠16∧o.kind≠17
 f:o.buf.toNat<c.nb
 a:L9 c o.a
 b:L9 c o.b
 z:L9 c o.c
 m:hiO c o∨plO c o
 ld:o.kind=14→c.L o.buf.toNat
 st:o.kind=15→c.S o.buf.toNat
def Fr.AllH (c:Cf):Int→Fr Lo→Prop
 |_,.nil=>True
 |lev,.op o r=>OpH c o∧r.AllH c lev
 |lev,.loop o b e r=>LpG lev o∧(c.lo≤lev∧lev≤c.hi)∧e=N8∧b.AllH c (lev+1)∧r.AllH c lev
structure CfOk (c:Cf):Prop where
 r:16≤c.R∧c.R+c.w≤64
 l:0≤c.lo∧c.hi<8
 p:8≤c.pa∧c.pb<16
def w9 (c:Cf)(o:Lo):Prop:=OpH c o∨o=N8∨∃lev,LpG lev o∧c.lo≤lev∧lev≤c.hi
section ah
variable {c : Cf}
def allH_cat:∀{f g:Fr Lo} {lev:Int},f.AllH c lev→g.AllH c lev→(f.cat g).AllH c lev
 |.nil,_,_,_,h=>h
 |.op _ _,_,_,h,k=>⟨h.1,allH_cat h.2 k⟩
 |.loop _ _ _ _,_,_,h,k=>⟨h.1,h.2.1,h.2.2.1,h.2.2.2.1,allH_cat h.2.2.2.2 k⟩
def allH_L:∀{l:List Lo} {lev:Int},(∀o∈l,OpH c o)→(E4 l).AllH c lev
 |[],_,_=>trivial
 |o::_,_,h=>⟨h o (B5 ..),allH_L fun x f=>h x (Az _ f)⟩
def Pe {lev times:Int}{b:Fr Lo}(h:times≤1000000)(f:c.lo≤lev∧lev≤c.hi)(g:b.AllH c (lev+1)):(Gk lev times b).AllH c lev:=by
 unfold Gk;split
 ·trivial
 ·refine⟨⟨rfl,rfl,rfl,rfl,rfl,rfl,?_⟩,f,rfl,g,trivial⟩;obtain⟨n,rfl⟩:=Af (show 0≤times by omega);show 1≤(iU (n:Int)).toNat;rw[O9 (by omega)];omega
def allH_wf:∀{f:Fr Lo} {lev:Int},f.AllH c lev→f.wf Im
 |.nil,_,_=>trivial
 |.op o r,_,h=>⟨by unfold Im;rw[Ab h.1.k.1,Ab h.1.k.2],allH_wf h.2⟩
 |.loop o b e r,_,h=>⟨by unfold Im;rw[Ai h.1.1],by rw[h.2.2.1];rfl,allH_wf h.2.2.2.1,allH_wf h.2.2.2.2⟩
def zsc {x:Int}{ls:List Nat}(f:∀y∈ls,y<8)(h:x=-1∨(8≤x∧x<64)):Xr ls x=true:=by
 unfold Xr;rcases h with rfl|h
 ·simp
 ·have:¬x.toNat∈ls:=fun q=>by have:=f _ q;omega
  simp[this];omega
def zxt (f:CfOk c){x:Int}(h:L9 c x):x<64:=by
 obtain⟨r,l,p⟩:=f;rcases h with h|h|h|h
 ·omega
 ·have:=h.2;omega
 ·omega
 ·omega
def mkH (j:CfOk c){o:Lo}(h:OpH c o):(o.d=-1∨(8≤o.d∧o.d<64))∧(o.e=-1∨(8≤o.e∧o.e<64)):=by
 obtain⟨r,l,p⟩:=j;rcases h.m with ⟨f,g,_⟩|⟨_,f,g,_⟩
 ·unfold I5 at f g;omega
 ·omega
def zev (j:CfOk c):∀{f:Fr Lo} {lev:Int} {ls:List Nat},(∀y∈ls,(y:Int)<lev∧y<8)→f.AllH c lev→f.regs c.nb ls=true
 |.nil,_,_,_,_=>rfl
 |.op o r,lev,ls,l,h=>by
  obtain⟨g,h⟩:=h;have s:=zev j l h;have m:∀y∈ls,y<8:=fun y p=>(l y p).2
  obtain⟨m1,x⟩:=mkH j g;simp only[Fr.regs,Ac,Ao];exact⟨zsc m m1,zsc m x,zxt j g.a,zxt j g.b,zxt j g.z,g.f,s⟩
 |.loop o b e r,lev,ls,l,h=>by
  obtain⟨⟨g1,g2,g3,g4,g5,g6,z⟩,k,_,w,h⟩:=h;obtain⟨A,B,C⟩:=id j;have s:=zev j l h;have w:=zev (ls:=o.d.toNat::ls) j (fun y p=>by
   rcases An.1 p with rfl|p
   ·omega
   ·have:=l y p;omega) w
  simp only[Fr.regs,Ac,Ao];refine⟨?_,by omega,z,w,s⟩;unfold Xr;have:¬o.d.toNat∈ls:=fun q=>by have:=l _ q;omega
  simp[this];omega
def allH_flat:∀{f:Fr Lo} {lev:Int},f.AllH c lev→∀o∈f.flat,w9 c o
 |.nil,_,_,o,ho=>by simp[Fr.flat] at ho
 |.op p r,_,h,o,ho=>by
  simp only[Fr.flat,An] at ho;rcases ho with rfl|ho
  ·exact .inl h.1
  ·exact allH_flat h.2 o ho
 |.loop p b e r,lev,h,o,ho=>by
  simp only[Fr.flat,An,Ay] at ho;rcases ho with rfl|ho|rfl|ho
  ·exact .inr (.inr ⟨lev,h.1,h.2.1⟩)
  ·exact allH_flat h.2.2.2.1 o ho
  ·exact .inr (.inl h.2.2.1)
  ·exact allH_flat h.2.2.2.2 o ho
def Qk (f:CfOk c){x:Int}(h:x=-1∨M6 c x):x<16:=by
 obtain⟨r,l,p⟩:=f;unfold M6 at h;omega
def w9.low (hc:CfOk c){o:Lo}(h:w9 c o):Nz o=true:=by
 have hr:=hc.r;have ad:=hc.l;have hp:=hc.p;rcases h with h|rfl|⟨lev,⟨g1,g2,g3,g4,g5,g6,g7⟩,k⟩
 ·unfold Nz;rw[Ab h.k.1,Ab h.k.2];rcases h.m with ⟨m1,m2,m3⟩|⟨m0,m1,m2,m3,m4,m5⟩
  ·have hd:Kf o.d=true:=by unfold Kf;unfold I5 at m1;simp only[Bm,Ao];omega
   have he:Kf o.e=true:=by unfold Kf;unfold I5 at m2;simp only[Bm,Ao];omega
   split
   ·rename_i hm;have ha:J2 o.a=true:=by unfold J2;exact B4 (Qk hc (m3 hm))
    rw[ha,hd,he];rfl
   ·rw[hd,he];rfl
  ·rw[Ab (by omega)];have ha:J2 o.a=true:=by unfold J2;exact B4 (Qk hc m3)
   have hb:J2 o.b=true:=by unfold J2;exact B4 (Qk hc m4)
   have aa:J2 o.c=true:=by unfold J2;exact B4 (Qk hc m5)
   rw[ha,hb,aa];simp
 ·rfl
 ·unfold Nz;rw[Ai g1];simp only[Ac,Ao];omega
def C0 (_:Int):Bool:=false
def w9.sto {o:Lo}(h:w9 c o)(k:o.kind=15):c.S o.buf.toNat:=by
 rcases h with h|rfl|⟨lev,⟨g1,_⟩,_⟩
 ·exact h.st k
 ·simp[N8] at k
 ·omega
def wrap_allH:∀(n:Nat) (i:Int) (f:Fr Lo),c.lo≤i→i+n≤c.hi+1→f.AllH c (i+n)→(R3 n i f).AllH c i
 |0,i,f,_,_,h=>by simpa [R3] using h
 |n+1,i,f,g,j,h=>by
  refine⟨⟨rfl,rfl,rfl,rfl,rfl,rfl,by simp[Ky,iU1]⟩,by omega,rfl,wrap_allH n (i+1) f (by omega) (by omega) ?_,trivial⟩;rw[show i+1+(n:Int)=i+(n+1:Nat) by omega];exact h
def Lb (c:Cf)(p:Pn):Prop:=p.b<c.nb∧c.L p.b
def Sb (c:Cf)(p:Pn):Prop:=p.b<c.nb∧c.S p.b
def Li {v i off:Int}{p:Pn}(f:Lb c p)(hv:I5 c v)(hi:i=-1∨M6 c i):OpH c (E7 v p.p i off) :=
 ⟨by simp[E7],by simpa [E7,Pn.p] using f.1,hi.imp_right .inr,.inl rfl,.inl rfl,.inl ⟨.inr hv,.inl rfl,fun _=>hi⟩,fun _=>by simpa [E7,Pn.p] using f.2,fun h=>by simp[E7] at h⟩
def N6 {v i off:Int}{p:Pn}(f:Sb c p)(hv:L9 c v)(hi:i=-1∨M6 c i):OpH c (Ff p.p i off v) :=
 ⟨by simp[Ff],by simpa [Ff,Pn.p] using f.1,hi.imp_right .inr,hv,.inl rfl,.inl ⟨.inl rfl,.inl rfl,fun _=>hi⟩,fun h=>by simp[Ff] at h,fun _=>by simpa [Ff,Pn.p] using f.2⟩
def Lt {v:Int}{x:UInt64}(f:0<c.nb)(hv:I5 c v):OpH c (cK v x) :=
 ⟨by simp[cK],f,.inl rfl,.inl rfl,.inl rfl,.inl ⟨.inr hv,.inl rfl,fun h=>by simp[cK] at h⟩,fun h=>by simp[cK] at h,fun h=>by simp[cK] at h⟩
def Q1 {v:Int}{x:UInt64}(f:0<c.nb)(hv:c.pa≤v∧v≤c.pb):OpH c (cK v x) :=
 ⟨by simp[cK],f,.inl rfl,.inl rfl,.inl rfl,.inr ⟨by simp[cK],hv,rfl,.inl rfl,.inl rfl,.inl rfl⟩,fun h=>by simp[cK] at h,fun h=>by simp[cK] at h⟩
def O8 {v x:Int}(f:0<c.nb)(hv:I5 c v)(g:L9 c x):OpH c (Ij v x) :=
 ⟨by simp[Ij],f,g,.inl rfl,.inl rfl,.inl ⟨.inr hv,.inl rfl,fun h=>by simp[Ij] at h⟩,fun h=>by simp[Ij] at h,fun h=>by simp[Ij] at h⟩
def xu {f v x b:Int}(hk:f=8∨f=9)(g:0<c.nb)(hv:I5 c v)(j:L9 c x):OpH c (It f v x b) :=
 ⟨by simp[It];omega,g,j,.inl rfl,.inl rfl,.inl ⟨.inr hv,.inl rfl,fun h=>by simp[It] at h;omega⟩,fun h=>by simp[It] at h;omega,fun h=>by simp[It] at h;omega⟩
def zwu {x y z w:Int}(f:0<c.nb)(g:I5 c x)(j:I5 c y)(l:L9 c z)(hw:L9 c w):OpH c (Ft x y z w) :=
 ⟨by simp[Ft],f,l,hw,.inl rfl,.inl ⟨.inr g,.inr j,fun h=>by simp[Ft] at h⟩,fun h=>by simp[Ft] at h,fun h=>by simp[Ft] at h⟩
def jx {f x z w:Int}(hk:3≤f∧f≤7)(g:0<c.nb)(j:I5 c x)(l:L9 c z)(hw:L9 c w):OpH c (Ew f x z w) :=
 ⟨by simp[Ew];omega,g,l,hw,.inl rfl,.inl ⟨.inr j,.inl rfl,fun h=>by simp[Ew] at h;omega⟩,fun h=>by simp[Ew] at h;omega,fun h=>by simp[Ew] at h;omega⟩
def zsj {f x z w:Int}(hk:3≤f∧f≤7)(j:0<c.nb)(l:c.pa≤x∧x≤c.pb)(g:M6 c z)(hw:M6 c w):OpH c (Ew f x z w) :=
 ⟨by simp[Ew];omega,j,.inr (.inr g),.inr (.inr hw),.inl rfl,.inr ⟨by simp[Ew];omega,l,rfl,.inr g,.inr hw,.inl rfl⟩,fun h=>by simp[Ew] at h;omega,fun h=>by simp[Ew] at h;omega⟩
def Ze {f x y z w q:Int}(hk:f=11∨f=12)(g:0<c.nb)(j:I5 c x)(l:I5 c y)(m:L9 c z)(hw:L9 c w)(o:L9 c q):OpH c (Fj f x y z w q) :=
 ⟨by simp[Fj];omega,g,m,hw,o,.inl ⟨.inr j,.inr l,fun h=>by simp[Fj] at h;omega⟩,fun h=>by simp[Fj] at h;omega,fun h=>by simp[Fj] at h;omega⟩
def ztc {x q z w:Int}(f:0<c.nb)(g:I5 c x)(j:L9 c q)(l:L9 c z)(hw:L9 c w):OpH c (Fx x q z w) :=
 ⟨by simp[Fx],f,l,hw,j,.inl ⟨.inr g,.inl rfl,fun h=>by simp[Fx] at h⟩,fun h=>by simp[Fx] at h,fun h=>by simp[Fx] at h⟩
def X4 {x y:List Lo}(h:∀o∈x,OpH c o)(k:∀o∈y,OpH c o):∀o∈x++y,OpH c o:=fun o ho=>(Ay.1 ho).elim (h o) (k o)
def Fy {x:Lo}{y:List Lo}(h:OpH c x)(k:∀o∈y,OpH c o):∀o∈x::y,OpH c o:=fun o ho=>by
 rcases An.1 ho with rfl|ho
 ·exact h
 ·exact k o ho
def oh_nil:∀o∈([]:List Lo),OpH c o:=fun _ h=>by cases h
def Il {x:Int}(h:I5 c x):L9 c x:=.inr (.inl h)
section into
variable {R D k : Int} {d a b n t : Pn}
def rgr (f:c.R≤R∧R+11≤c.R+c.w)(j:Int)(h:0≤j∧j≤10):I5 c (R+j):=by unfold I5;omega
def Rv (f:c.R≤R∧R+11≤c.R+c.w):I5 c R:=by unfold I5;omega
def Zf (f:0<c.nb)(g:c.R≤R∧R+11≤c.R+c.w):∀o∈Mi (R+10) (R+1),OpH c o:=by
 intro o ho;simp[Mi,Sx,Pu,jt] at ho;rcases ho with rfl|rfl|rfl|rfl|⟨_,rfl|rfl|rfl⟩|rfl|rfl
 all_goals first|(refine Lt f ?_;unfold I5;omega)|(refine zwu f ?_ ?_ (Il ?_) (Il ?_)<;>(unfold I5;omega))|(refine jx (by omega) f ?_ (Il ?_) (Il ?_)<;>(unfold I5;omega))
def zvv {x y:Int}(f:0<c.nb)(h:c.R≤R∧R+11≤c.R+c.w)(j:I5 c x)(l:I5 c y):∀o∈Fw R x y,OpH c o:=by
 unfold Fw;have g:=rgr h;exact Fy (zwu f (g 5 (by omega)) (g 6 (by omega)) (Il j) (Il l)) (Fy (Ze (.inl rfl) f (g 6 (by omega)) (g 8 (by omega)) (Il (g 6 (by omega))) (Il (g 7 (by omega))) (Il (Rv h))) (Fy (Ze (.inl rfl) f (g 6 (by omega)) (g 9 (by omega)) (Il (g 6 (by omega))) (Il (g 3 (by omega))) (Il (Rv h))) (Fy (jx (by omega) f (g 5 (by omega)) (Il (g 5 (by omega))) (Il (g 8 (by omega)))) (Fy (jx (by omega) f (g 3 (by omega)) (Il (g 5 (by omega))) (Il (g 9 (by omega)))) oh_nil))))
def zpn {x:List Lo}{lev:Int}(l:c.R≤R∧R+11≤c.R+c.w)(pn:Lb c n)(m:Lb c t)(hk:k≤1000000)(f:c.lo≤lev∧lev≤c.hi)(p:∀o∈x,OpH c o):(Nn n.p t.p k R lev x).AllH c lev:=by
 unfold Nn Lz;have h:0<c.nb:=by have:=pn.1;omega
 have g:=rgr l;have j:lev=-1∨M6 c lev:=.inr (.inl f);exact allH_cat (allH_L (Fy (Lt h (g 8 (by omega))) oh_nil)) (Pe hk f (allH_L (X4 (Fy (Li m (g 7 (by omega)) j) (Fy (Li pn (g 4 (by omega)) j) (Fy (Ze (.inr rfl) h (g 6 (by omega)) (g 8 (by omega)) (Il (g 7 (by omega))) (Il (g 4 (by omega))) (Il (g 8 (by omega)))) oh_nil))) p)))
def zjj {x:Int}{p:Pn}(g:Sb c p)(h:L9 c x)(f:c.lo≤D∧D≤c.hi)(hk:p.k≤1000000):(Ke p.p x D).AllH c D:=by
 unfold Ke;exact Pe (by show (p.k:Int)≤_;omega) f (allH_L (Fy (N6 g h (.inr (.inl f))) oh_nil))
def zmv (p:c.R≤R∧R+11≤c.R+c.w)(pd:Sb c d)(pa:Lb c a)(pb:Lb c b)(pn:Lb c n)(o:Lb c t)(st:Sb c t)(hk:k≤1000000)(s:t.k≤1000000)(x:c.lo≤D∧D+1≤c.hi):(O2 d.p a.p b.p n.p t.p k R D).AllH c D:=by
 have l:0<c.nb:=by have:=pn.1;omega
 have g:=rgr p;have g0:=Rv p;have f:∀j:Int,0≤j∧j≤10→L9 c (R+j):=fun j h=>Il (g j h)
 have r:c.lo≤D∧D≤c.hi:=by omega
 have q:c.lo≤D+1∧D+1≤c.hi:=by omega
 have w:D=-1∨M6 c D:=.inr (.inl r);have m:D+1=-1∨M6 c (D+1):=.inr (.inl q);unfold O2;refine allH_cat (allH_L (X4 (Fy (Lt l g0) (Fy (Li pn (g 10 (by omega)) (.inl rfl)) oh_nil)) (Zf l p))) (allH_cat (zjj st (Il g0) r s) (allH_cat (Pe hk r (allH_cat ?_ ?_)) ?_))
 ·unfold Lk Lr Gt;refine allH_cat (allH_L (Fy (Li pb (g 2 (by omega)) w) (Fy (Lt l (g 3 (by omega))) oh_nil))) (allH_cat (Pe hk q (allH_L (X4 (Fy (Li pa (g 4 (by omega)) m) (Fy (Li o (g 7 (by omega)) m) oh_nil)) (X4 (zvv l p (g 4 (by omega)) (g 2 (by omega))) (Fy (N6 st (f 6 (by omega)) m) oh_nil))))) (allH_L (X4 (Fy (Li o (g 7 (by omega)) (.inl rfl)) (Fy (Ze (.inl rfl) l (g 7 (by omega)) (g 8 (by omega)) (f 7 (by omega)) (f 3 (by omega)) (Il g0)) oh_nil)) (Fy (N6 st (f 7 (by omega)) (.inl rfl)) (Fy (N6 st (f 8 (by omega)) (.inl rfl)) oh_nil)))))
 ·unfold Ly Mh Gt;refine allH_cat (allH_L (X4 (Fy (Li o (g 7 (by omega)) (.inl rfl)) (Fy (zwu l (g 5 (by omega)) (g 10 (by omega)) (f 7 (by omega)) (f 1 (by omega))) (Fy (Li pn (g 4 (by omega)) (.inl rfl)) (Fy (Lt l (g 3 (by omega))) oh_nil)))) (zvv l p (g 10 (by omega)) (g 4 (by omega)))))
   (allH_cat (Pe (by omega) q (allH_L (X4 (Fy (Li pn (g 4 (by omega)) m) (Fy (Li o (g 7 (by omega)) m) oh_nil)) (X4 (zvv l p (g 10 (by omega)) (g 4 (by omega))) (Fy (N6 st (f 6 (by omega)) m) oh_nil)))))
   (allH_L (X4 (Fy (Li o (g 7 (by omega)) (.inl rfl)) (Fy (Ze (.inl rfl) l (g 7 (by omega)) (g 8 (by omega)) (f 7 (by omega)) (f 3 (by omega)) (Il g0)) oh_nil)) (Fy (N6 st (f 7 (by omega)) (.inl rfl)) (Fy (Li o (g 7 (by omega)) (.inl rfl)) (Fy (jx (by omega) l (g 7 (by omega)) (f 7 (by omega)) (f 8 (by omega))) (Fy (N6 st (f 7 (by omega)) (.inl rfl)) oh_nil)))))))
 ·unfold Qb;exact allH_cat (zpn p pn o hk r oh_nil) (allH_cat (allH_L (Fy (Li o (g 7 (by omega)) (.inl rfl)) (Fy (Ze (.inr rfl) l (g 6 (by omega)) (g 10 (by omega)) (f 7 (by omega)) (Il g0) (f 8 (by omega))) oh_nil))) (zpn p pn o hk r (Fy (ztc l (g 6 (by omega)) (f 10 (by omega)) (f 7 (by omega)) (f 6 (by omega))) (Fy (N6 pd (f 6 (by omega)) w) oh_nil))))
end into
end ah
end Go.Sv
noncomputable section
namespace Go.Sv
def Qi (p:Pc)(n l o b D:Int):Fr Lo:=Gk D n (E4 [E7 l p D 0,It 9 o l 63,It 8 l l 1,Ew 6 l l b,Ff p D 0 l,Ij b o])
def Rr (to fr:Pc)(k l D:Int):Fr Lo:=Gk D k (E4 [E7 l fr D 0,Ff to D 0 l])
def Nu (n r:Pc)(R D:Int):List Lo:=[E7 (R+2) r D 0,E7 (R+4) n D 0,Fj 12 (R+4) (R+5) (R+2) (R+4) (R+5)]
def Oa (n r:Pc)(k R D:Int)(x:List Lo):Fr Lo:=(E4 [cK (R+5) 0]).cat ((Gk D k (E4 (Nu n r R D++x))).cat (E4 [E7 (R+2) r (-1) k,Fj 12 (R+4) (R+5) (R+2) R (R+5)]))
def Tb (n r:Pc)(k R D:Int):Fr Lo:=(Qi r (k+1) (R+2) (R+3) (R+1) D).cat ((Oa n r k R D []).cat ((E4 [Ij (R+6) (R+5)]).cat ((Oa n r k R D [Fx (R+4) (R+6) (R+2) (R+4),Ff r D 0 (R+4)]).cat (E4 [Fx (R+4) (R+6) (R+2) (R+4),Ff r (-1) k (R+4),cK (R+1) 0]))))
def Pf (d n r:Pc)(k bits R D:Int):Fr Lo:=(E4 [cK R 0,cK (R+1) 1]).cat ((Ke r R D).cat ((Gk D (bits+1) (Tb n r k R (D+1))).cat (Rr d r k (R+2) D)))
structure Pw where
 d:Pn
 a:Pn
 b:Pn
 n:Pn
 wb:Nat
 wa:Nat
 k:Nat
 w:Nat
 times:Nat
 over:Nat
 B:Nat
def Pw.acc (p:Pw):Pn:=⟨p.wb,p.wa,p.k⟩
def Pw.base (p:Pw):Pn:=⟨p.wb,p.wa+p.k,p.k⟩
def Pw.cur (p:Pw):Pn:=⟨p.wb,p.wa+2*p.k,p.k⟩
def Pw.es (p:Pw):Pn:=⟨p.wb,p.wa+3*p.k,p.b.k+1⟩
def Pw.t (p:Pw):Pn:=⟨p.wb,p.wa+3*p.k+p.b.k+1,p.k+2⟩
def Pw.tab (p:Pw):Pn:=⟨p.wb,p.wa+4*p.k+p.b.k+3,p.k*2^p.w⟩
def Pw.ent (p:Pw):Pn:=⟨p.tab.b,p.tab.a,p.k⟩
def Pw.r (p:Pw):Pn:=⟨p.t.b,p.t.a,p.k+1⟩
def Pw.mont (p:Pw)(d a b:Pn)(D:Int):Fr Lo:=O2 d.p a.p b.p p.n.p p.t.p p.k (p.B+10) D
def Pw.radix (p:Pw)(d:Pn)(bits D:Int):Fr Lo:=Pf d.p p.n.p p.r.p p.k bits (p.B+10) D
def Pw.copies (p:Pw)(to fr:Pn)(D:Int):Fr Lo:=Rr to.p fr.p p.k (p.B+3) D
def Pw.fillR (p:Pw)(D:Int):Fr Lo:=(p.mont p.acc p.acc p.base (D+1)).cat ((Gk (D+1) p.k (E4 [E7 (p.B+3) p.acc.p (D+1) 0,Ew 3 13 12 (D+1),Ff p.tab.p 13 0 (p.B+3)])).cat (E4 [cK 13 (iU p.k),Ew 3 12 12 13]))
def Pw.fill (p:Pw)(D:Int):Fr Lo:=(p.radix p.ent (64*p.k) D).cat ((p.radix p.cur (128*p.k) D).cat ((p.mont p.base p.a p.cur D).cat ((p.copies p.acc p.ent D).cat ((E4 [cK 12 (iU p.k)]).cat (Gk D (2^p.w - 1:Nat) (p.fillR D))))))
def Pw.expB (p:Pw)(D:Int):List Lo:=if p.over=0 then [E7 (p.B+3) p.b.p D 0,Ff p.es.p D 1 (p.B+3)] else [E7 (p.B+3) p.b.p D 0,It 8 (p.B+2) (p.B+3) (64 - p.over),Ew 6 (p.B+2) (p.B+2) (p.B+4),Ff p.es.p D 0 (p.B+2),It 9 (p.B+4) (p.B+3) p.over]
def Pw.expE (p:Pw):List Lo:=if p.over=0 then [Ff p.es.p (-1) 0 p.B] else [Ff p.es.p (-1) p.b.k (p.B+4)]
def Pw.exp (p:Pw)(D:Int):Fr Lo:=(E4 [Ij (p.B+4) p.B]).cat ((Gk D p.b.k (E4 (p.expB D))).cat (E4 p.expE))
def Pw.shift (p:Pw)(D:Int):Fr Lo:=(E4 [Ij (p.B+2) p.B]).cat ((Qi p.es.p p.es.k (p.B+3) (p.B+4) (p.B+2) D).cat (E4 [It 8 (p.B+1) (p.B+1) 1,Ew 6 (p.B+1) (p.B+1) (p.B+2)]))
def Pw.scanB (p:Pw)(D:Int):List Lo:=[Ew 3 13 12 D,E7 (p.B+3) p.tab.p 13 0,E7 (p.B+6) p.cur.p D 0,Fx (p.B+3) (p.B+5) (p.B+6) (p.B+3),Ff p.cur.p D 0 (p.B+3)]
def Pw.scanR (p:Pw)(D:Int):Fr Lo:=(E4 [Ew 7 (p.B+5) (p.B+1) D,Fj 12 (p.B+4) (p.B+5) p.B (p.B+5) p.B]).cat ((Gk (D+1) p.k (E4 (p.scanB (D+1)))).cat (E4 [cK 13 (iU p.k),Ew 3 12 12 13]))
def Pw.scan (p:Pw)(D:Int):Fr Lo:=(E4 [cK 12 0]).cat (Gk D (2^p.w:Nat) (p.scanR D))
def Pw.runW (p:Pw)(D:Int):Fr Lo:=(p.mont p.acc p.acc p.acc D).cat (p.shift D)
def Pw.runR (p:Pw)(D:Int):Fr Lo:=(E4 [Ij (p.B+1) p.B]).cat ((Gk D p.w (p.runW (D+1))).cat ((p.scan D).cat (p.mont p.acc p.acc p.cur D)))
def Pw.run (p:Pw)(D:Int):Fr Lo:=(p.copies p.acc p.ent D).cat ((Gk D p.times (p.runR (D+1))).cat ((E4 [cK (p.B+3) 1]).cat ((Ke p.cur.p p.B D).cat ((E4 [Ff p.cur.p (-1) 0 (p.B+3)]).cat (p.mont p.d p.acc p.cur D)))))
def Pw.code (p:Pw)(D:Int):Fr Lo:=(E4 [cK p.B 0]).cat ((p.fill D).cat ((p.exp D).cat (p.run D)))
section all
variable {c : Cf}
def zxq {p:Pn}{n l o b D:Int}(f:Lb c p)(sp:Sb c p)(a:I5 c l)(ho:I5 c o)(g:I5 c b)(m:n≤1000000)(h:c.lo≤D∧D≤c.hi):(Qi p.p n l o b D).AllH c D:=by
 have d:0<c.nb:=by have:=f.1;omega
 have j:D=-1∨M6 c D:=.inr (.inl h);exact Pe m h (allH_L (Fy (Li f a j) (Fy (xu (.inr rfl) d ho (Il a)) (Fy (xu (.inl rfl) d a (Il a)) (Fy (jx (by omega) d a (Il a) (Il g)) (Fy (N6 sp (Il a) j) (Fy (O8 d g (Il ho)) oh_nil)))))))
def zrk {to fr:Pn}{k l D:Int}(g:Lb c fr)(sp:Sb c to)(a:I5 c l)(h:k≤1000000)(d:c.lo≤D∧D≤c.hi):(Rr to.p fr.p k l D).AllH c D:=by
 have f:D=-1∨M6 c D:=.inr (.inl d);exact Pe h d (allH_L (Fy (Li g a f) (Fy (N6 sp (Il a) f) oh_nil)))
def zot {n r:Pn}{k R D:Int}{x:List Lo}(f:c.R≤R∧R+11≤c.R+c.w)(pn:Lb c n)(l:Lb c r)(hk:k≤1000000)(m:c.lo≤D∧D≤c.hi)(q:∀o∈x,OpH c o):(Oa n.p r.p k R D x).AllH c D:=by
 have d:0<c.nb:=by have:=pn.1;omega
 have p:D=-1∨M6 c D:=.inr (.inl m);have g:=rgr f;have a:∀j:Int,0≤j∧j≤10→L9 c (R+j):=fun j h=>Il (g j h)
 unfold Oa Nu;exact allH_cat (allH_L (Fy (Lt d (g 5 (by omega))) oh_nil)) (allH_cat (Pe hk m (allH_L (X4 (Fy (Li l (g 2 (by omega)) p) (Fy (Li pn (g 4 (by omega)) p) (Fy (Ze (.inr rfl) d (g 4 (by omega)) (g 5 (by omega)) (a 2 (by omega)) (a 4 (by omega)) (a 5 (by omega))) oh_nil))) q))) (allH_L (Fy (Li l (g 2 (by omega)) (.inl rfl)) (Fy (Ze (.inr rfl) d (g 4 (by omega)) (g 5 (by omega)) (a 2 (by omega)) (Il (Rv f)) (a 5 (by omega))) oh_nil))))
def zuh {d n r:Pn}{k bits R D:Int}(p:c.R≤R∧R+11≤c.R+c.w)(pd:Sb c d)(pn:Lb c n)(q:Lb c r)(s:Sb c r)(hk:k≤1000)(y:bits≤100000)(x:r.k≤100000)(z:c.lo≤D∧D+1≤c.hi):(Pf d.p n.p r.p k bits R D).AllH c D:=by
 have m:0<c.nb:=by have:=pn.1;omega
 have l:c.lo≤D∧D≤c.hi:=by omega
 have a:c.lo≤D+1∧D+1≤c.hi:=by omega
 have w:D+1=-1∨M6 c (D+1):=.inr (.inl a);have g:=rgr p;have f:∀j:Int,0≤j∧j≤10→L9 c (R+j):=fun j h=>Il (g j h)
 unfold Pf Tb;refine allH_cat (allH_L (Fy (Lt m (Rv p)) (Fy (Lt m (g 1 (by omega))) oh_nil))) (allH_cat (zjj s (Il (Rv p)) l (by omega)) (allH_cat (Pe (by omega) l ?_) (zrk q pd (g 2 (by omega)) (by omega) l)));have e:∀o∈[Fx (R+4) (R+6) (R+2) (R+4),Ff r.p (D+1) 0 (R+4)],OpH c o:=Fy (ztc m (g 4 (by omega)) (f 6 (by omega)) (f 2 (by omega)) (f 4 (by omega))) (Fy (N6 s (f 4 (by omega)) w) oh_nil);exact allH_cat (zxq q s (g 2 (by omega)) (g 3 (by omega)) (g 1 (by omega)) (by omega) a) (allH_cat (zot p pn q (by omega) a oh_nil) (allH_cat (allH_L (Fy (O8 m (g 6 (by omega)) (f 5 (by omega))) oh_nil)) (allH_cat (zot p pn q (by omega) a e) (allH_L (Fy (ztc m (g 4 (by omega)) (f 6 (by omega)) (f 2 (by omega)) (f 4 (by omega))) (Fy (N6 s (f 4 (by omega)) (.inl rfl)) (Fy (Lt m (g 1 (by omega))) oh_nil)))))))
structure PwC (c:Cf) (p:Pw):Prop where
 r:c.R≤p.B∧(p.B:Int)+21≤c.R+c.w
 q:c.pa≤12∧13≤c.pb
 d:Sb c p.d
 a:Lb c p.a
 b:Lb c p.b
 n:Lb c p.n
 wl:c.L p.wb
 ws:c.S p.wb
 wb:p.wb<c.nb
 k:p.k≤512
 w:p.w≤6
 ti:p.times≤100000
 bk:p.b.k≤512
def S5 {w:Nat}(h:w≤6):2^w≤64:=Ee (by decide) h
def Pw.all {p:Pw}(h:PwC c p){D:Int}(hD:c.lo≤D∧D+3≤c.hi):(p.code D).AllH c D:=by
 obtain⟨hr,ag,pd,pa,pb,pn,wl,ws,wb,hk,hw,ah,aj⟩:=h;have h0:0<c.nb:=by have:=pn.1;omega
 have wL:∀q:Pn,q.b=p.wb→Lb c q:=fun q e=>⟨by omega,by rw[e];exact wl⟩
 have wS:∀q:Pn,q.b=p.wb→Sb c q:=fun q e=>⟨by omega,by rw[e];exact ws⟩
 have g:∀j:Int,0≤j∧j≤20→I5 c (p.B+j):=fun j h=>by unfold I5;omega
 have g0:I5 c p.B:=by unfold I5;omega
 have gi:∀j:Int,0≤j∧j≤20→L9 c (p.B+j):=fun j h=>Il (g j h)
 have af:c.R≤(p.B:Int)+10∧(p.B:Int)+10+11≤c.R+c.w:=by omega
 have ao:=S5 hw;have aa:M6 c 12:=.inr (by omega);have ad:M6 c 13:=.inr (by omega);have mo:∀(d a b:Pn) (E:Int),Sb c d→Lb c a→Lb c b→c.lo≤E→E+1≤c.hi→(p.mont d a b E).AllH c E:=fun d a b E hd ha hb h1 h2=>zmv af hd ha hb pn (wL _ rfl) (wS _ rfl) (by omega) (by show p.k+2≤1000000;omega) ⟨h1,h2⟩
 have lv:∀E:Int,c.lo≤E→E≤c.hi→M6 c E:=fun E h1 h2=>.inl ⟨h1,h2⟩
 have ra:∀(d:Pn) (bits:Int),Sb c d→bits≤100000→(p.radix d bits D).AllH c D:=fun d bits hd hb=>zuh af hd pn (wL _ rfl) (wS _ rfl) (by omega) hb (by show p.k+1≤100000;omega) (by omega)
 unfold Pw.code;refine allH_cat (allH_L (Fy (Lt h0 g0) oh_nil)) (allH_cat ?_ (allH_cat ?_ ?_))
 ·unfold Pw.fill Pw.fillR;refine allH_cat (ra _ _ (wS _ rfl) (by omega)) (allH_cat (ra _ _ (wS _ rfl) (by omega)) (allH_cat (mo _ _ _ _ (wS _ rfl) pa (wL _ rfl) (by omega) (by omega)) (allH_cat (zrk (wL _ rfl) (wS _ rfl) (g 3 (by omega)) (by omega) (by omega)) (allH_cat (allH_L (Fy (Q1 h0 (by omega)) oh_nil)) (Pe (by omega) (by omega) (allH_cat (mo _ _ _ _ (wS _ rfl) (wL _ rfl) (wL _ rfl) (by omega) (by omega)) (allH_cat (Pe (by omega) (by omega) (allH_L ?_)) (allH_L ?_))))))))
  ·exact Fy (Li (wL _ rfl) (g 3 (by omega)) (.inr (lv _ (by omega) (by omega)))) (Fy (zsj (by omega) h0 (by omega) aa (lv _ (by omega) (by omega))) (Fy (N6 (wS _ rfl) (gi 3 (by omega)) (.inr ad)) oh_nil))
  ·exact Fy (Q1 h0 (by omega)) (Fy (zsj (by omega) h0 (by omega) aa ad) oh_nil)
 ·unfold Pw.exp Pw.expB Pw.expE;refine allH_cat (allH_L (Fy (O8 h0 (g 4 (by omega)) (Il g0)) oh_nil)) (allH_cat (Pe (by omega) (by omega) (allH_L ?_)) (allH_L ?_))
  ·split
   ·exact Fy (Li pb (g 3 (by omega)) (.inr (lv _ (by omega) (by omega)))) (Fy (N6 (wS _ rfl) (gi 3 (by omega)) (.inr (lv _ (by omega) (by omega)))) oh_nil)
   ·exact Fy (Li pb (g 3 (by omega)) (.inr (lv _ (by omega) (by omega)))) (Fy (xu (.inl rfl) h0 (g 2 (by omega)) (gi 3 (by omega))) (Fy (jx (by omega) h0 (g 2 (by omega)) (gi 2 (by omega)) (gi 4 (by omega))) (Fy (N6 (wS _ rfl) (gi 2 (by omega)) (.inr (lv _ (by omega) (by omega)))) (Fy (xu (.inr rfl) h0 (g 4 (by omega)) (gi 3 (by omega))) oh_nil))))
  ·split
   ·exact Fy (N6 (wS _ rfl) (Il g0) (.inl rfl)) oh_nil
   ·exact Fy (N6 (wS _ rfl) (gi 4 (by omega)) (.inl rfl)) oh_nil
 ·unfold Pw.run Pw.runR Pw.runW Pw.shift Pw.scan Pw.scanR Pw.scanB;refine allH_cat (zrk (wL _ rfl) (wS _ rfl) (g 3 (by omega)) (by omega) (by omega)) (allH_cat (Pe (by omega) (by omega) (allH_cat (allH_L (Fy (O8 h0 (g 1 (by omega)) (Il g0)) oh_nil)) (allH_cat (Pe (by omega) (by omega) (allH_cat ?_ ?_)) (allH_cat (allH_cat ?_ ?_) ?_)))) ?_)
  ·exact mo _ _ _ _ (wS _ rfl) (wL _ rfl) (wL _ rfl) (by omega) (by omega)
  ·exact allH_cat (allH_L (Fy (O8 h0 (g 2 (by omega)) (Il g0)) oh_nil)) (allH_cat (zxq (wL _ rfl) (wS _ rfl) (g 3 (by omega)) (g 4 (by omega)) (g 2 (by omega)) (by show ((p.b.k+1:Nat):Int)≤1000000;omega) (by omega)) (allH_L (Fy (xu (.inl rfl) h0 (g 1 (by omega)) (gi 1 (by omega))) (Fy (jx (by omega) h0 (g 1 (by omega)) (gi 1 (by omega)) (gi 2 (by omega))) oh_nil))))
  ·exact allH_L (Fy (Q1 h0 (by omega)) oh_nil)
  ·refine Pe (by omega) (by omega) (allH_cat (allH_L ?_) (allH_cat (Pe (by omega) (by omega) (allH_L ?_)) (allH_L ?_)))
   ·exact Fy (jx (by omega) h0 (g 5 (by omega)) (gi 1 (by omega)) (.inr (.inr (lv _ (by omega) (by omega))))) (Fy (Ze (.inr rfl) h0 (g 4 (by omega)) (g 5 (by omega)) (Il g0) (gi 5 (by omega)) (Il g0)) oh_nil)
   ·exact Fy (zsj (by omega) h0 (by omega) aa (lv _ (by omega) (by omega))) (Fy (Li (wL _ rfl) (g 3 (by omega)) (.inr ad)) (Fy (Li (wL _ rfl) (g 6 (by omega)) (.inr (lv _ (by omega) (by omega)))) (Fy (ztc h0 (g 3 (by omega)) (gi 5 (by omega)) (gi 6 (by omega)) (gi 3 (by omega))) (Fy (N6 (wS _ rfl) (gi 3 (by omega)) (.inr (lv _ (by omega) (by omega)))) oh_nil))))
   ·exact Fy (Q1 h0 (by omega)) (Fy (zsj (by omega) h0 (by omega) aa ad) oh_nil)
  ·exact mo _ _ _ _ (wS _ rfl) (wL _ rfl) (wL _ rfl) (by omega) (by omega)
  ·exact allH_cat (allH_L (Fy (Lt h0 (g 3 (by omega))) oh_nil)) (allH_cat (zjj (wS _ rfl) (Il g0) (by omega) (by show p.k≤1000000;omega)) (allH_cat (allH_L (Fy (N6 (wS _ rfl) (gi 3 (by omega)) (.inl rfl)) oh_nil)) (mo _ _ _ _ pd (wL _ rfl) (wL _ rfl) (by omega) (by omega))))
end all
end Go.Sv
end
namespace Go.Sv
def Ra (D:Int)(ls:List Int):Prop:=(ls.length:Int)≤D∧∀x∈ls,x<D
def K0 (D:Int)(S:List Int):Prop:=∀x∈S,x<D∨8≤x
section gd
variable {bs : List Bf} {S S' T ls : List Int} {D : Int} {f g b : Fr Lo} {l : List Lo}
def Ra.snoc (h:Ra D ls):Ra (D+1) (ls++[D]):=⟨by have:=h.1;simp;omega,fun x hx=>by
 rcases Ay.1 hx with hx|hx
 ·have:=h.2 x hx;omega
 ·simp at hx;omega⟩
def Ra.lt (h:Ra D ls)(hD:D≤8):∀x∈ls,x<8:=fun x hx=>by have:=h.2 x hx;omega
def K0.cons (h:K0 D S):K0 (D+1) (D::S):=fun x hx=>by
 rcases An.1 hx with rfl|hx
 ·omega
 ·have:=h x hx;omega
def K0.high {x:Int}(h:K0 D S)(hx:8≤x):K0 D (x::S):=fun y hy=>by
 rcases An.1 hy with rfl|hy
 ·exact .inr hx
 ·exact h y hy
def Gd.lpD {times:Int}(h:Ra D ls)(hD:0≤D∧D<8)(hS:K0 D S)(ht:times≤1048576)(hb:Gd bs (D::S) (ls++[D]) b S')(hs:∀x∈S,x∈S'):Gd bs S ls (Gk D times b) S :=
 .lp (by have:=h.1;omega) hD (fun q=>by have:=h.2 _ q;omega) (fun q=>by have:=hS _ q;omega) ht hb hs
def Gd.Lm (hL:Ra D ls)(hD:D≤8)(h:Hd 64 bs S l)(hk:∀o∈l,∀x∈E8 o,8≤x)(hT:∀x∈T,x∈l.flatMap E8++S):Gd bs S ls (E4 l) T :=
 Gd.mono (Gd.L (hL.lt hD) h hk) (fun _ h=>h) hT
def znz {regs:Int}{k d a j:Int}(hk:k=8∨k=9)(h:0≤d∧d<regs)(m:0≤a∧a<regs)(q:1≤j∧j≤63):Ib regs bs (It k d a j)=true:=by
 obtain⟨n,rfl⟩:=Af (show 0≤j by omega);have e:(iU (n:Int)).toNat=n:=O9 (by omega);have o:(1:UInt64)≤iU (n:Int):=by rw[Bq,e];show 1≤_;omega
 have p:iU (n:Int)≤(63:UInt64):=by rw[Bq,e];show _≤63;omega
 rcases hk with rfl|rfl<;>simp[Ib,It,Fh,Gj,Gh,Gr,Jg,Jl,Gf,h,m,o,p]
def zu {k' d a j:Int}(hk:k'=8∨k'=9)(h:0≤d∧d<64)(m:0≤a∧a<64)(o:1≤j∧j≤63)(p:a∈S)(k:Hd 64 bs (d::S) l):Hd 64 bs S (It k' d a j::l):=by
 rcases hk with rfl|rfl
 ·exact⟨znz (.inl rfl) h m o,by simp[It],by simp[Ht,It,p],k⟩
 ·exact⟨znz (.inr rfl) h m o,by simp[It],by simp[Ht,It,p],k⟩
def zk {d a:Int}(h:0≤d∧d<64)(j:0≤a∧a<64)(m:a∈S)(k:Hd 64 bs (d::S) l):Hd 64 bs S (Ij d a::l) :=
 ⟨zwi h j,by simp[Ij],by simp[Ht,Ij,m],k⟩
def jd {p:Pn}{n l o b:Int}(a:Ra D ls)(j:0≤D∧D<8)(m:K0 D S)(w:8≤l∧l<64)(ho:8≤o∧o<64)(y:8≤b∧b<64)(q:b∈S)(d:Bp bs p)(wp:Bw bs p)(r:n≤1048576):Gd bs S ls (Qi p.p n l o b D) S:=by
 have h:Hd 64 bs (D::S) [E7 l p.p D 0,It 9 o l 63,It 8 l l 1,Ew 6 l l b,Ff p.p D 0 l,Ij b o] :=
  Ph d (by omega) (by omega) (by simp) (zu (.inr rfl) (by omega) (by omega) (by omega) (by simp) (zu (.inl rfl) (by omega) (by omega) (by omega) (by simp) (U1 (by omega) (by omega) (by omega) (by omega) (by simp) (by simp[q]) (Ug d wp (by omega) (by omega) (by simp) (by simp) (zk (by omega) (by omega) (by simp) okL_nil)))))
 refine Gd.lpD a j m r (Gd.L (a.snoc.lt (by omega)) h ?_) fun x s=>Ba _ (Az _ s)
 simp[E8,E7,It,Ew,Ff,Ij];omega
def j1 {to fr:Pn}{k l:Int}(a:Ra D ls)(d:0≤D∧D<8)(j:K0 D S)(r:8≤l∧l<64)(m:Bp bs to)(wt:Bw bs to)(o:Bp bs fr)(p:k≤1048576):Gd bs S ls (Rr to.p fr.p k l D) S:=by
 have h:Hd 64 bs (D::S) [E7 l fr.p D 0,Ff to.p D 0 l]:=Ph o (by omega) (by omega) (by simp) (Ug m wt (by omega) (by omega) (by simp) (by simp) okL_nil);refine Gd.lpD a d j p (Gd.L (a.snoc.lt (by omega)) h ?_) fun x q=>Ba _ (Az _ q)
 simp[E8,E7,Ff];omega
def zsq {x:Int}{p:Pn}(a:Ra D ls)(d:0≤D∧D<8)(h:K0 D S)(j:0≤x∧x<64)(mx:x∈S)(m:Bp bs p)(wp:Bw bs p):Gd bs S ls (Ke p.p x D) S :=
 zyi j mx d (fun q=>by have:=a.2 _ q;omega) (fun q=>by have:=h _ q;omega) (by have:=a.1;omega) (a.lt (by omega)) m wp
def j5 {n r:Pn}{k R:Int}{x:List Lo}(a:Ra D ls)(m:0≤D∧D<8)(p:K0 D S)(C:16≤R∧R≤50)(q:R∈S)(pn:Bp bs n)(d:Bp bs r)(hk:0≤k∧k<r.k)
  (j:Hd 64 bs ((R+4)::(R+5)::(R+4)::(R+2)::D::(R+5)::S) x) (hm:∀o∈x,∀y∈E8 o,8≤y):Gd bs S ls (Oa n.p r.p k R D x) ((R+2)::(R+4)::(R+5)::S):=by
 have s:(r.k:Int)≤65536:=by have:=d.s;have:=d.z;omega
 unfold Oa;have w:Hd 64 bs S [cK (R+5) 0]:=Qu (by omega) okL_nil;have z:Hd 64 bs (D::(R+5)::S) (Nu n.p r.p R D++x):=by
  unfold Nu;exact Ph d (by omega) (by omega) (by simp) (Ph pn (by omega) (by omega) (by simp) (bx (.inr rfl) (by omega) (by omega) (by omega) (by omega) (by omega) (by omega) (by simp) (by simp) (by simp) j))
 have A:Hd 64 bs ((R+5)::S) [E7 (R+2) r.p (-1) k,Fj 12 (R+4) (R+5) (R+2) R (R+5)]:=gy d (by omega) hk.1 hk.2 (bx (.inr rfl) (by omega) (by omega) (by omega) (by omega) (by omega) (by omega) (by simp) (by simp[q]) (by simp) okL_nil);refine Gd.cat (Gd.Lm (T:=(R+5)::S) a (by omega) w (by simp[E8,cK];omega) (by simp[E8,cK])) (Gd.cat (Gd.lpD a m (p.high (by omega)) (by omega) (Gd.L (a.snoc.lt (by omega)) z ?_) ?_) (Gd.Lm a (by omega) A (by simp[E8,E7,Fj];omega) (fun x j=>by simp[E8,E7,Fj] at j ⊢;rcases j with h|h|h|h<;>simp[h])))
 ·intro o ho;rcases Ay.1 ho with ho|ho
  ·simp[Nu] at ho;rcases ho with rfl|rfl|rfl<;>simp[E8,E7,Fj]<;>omega
  ·exact hm o ho
 ·intro y B;exact Ba _ (Az _ B)
def Um {d n r:Pn}{k bits R:Int}(p:Ra D ls)(B:0≤D∧D+1<8)(w:K0 D S)(s:16≤R∧R≤50)(pd:Bp bs d)(wd:Bw bs d)(pn:Bp bs n)(j:Bp bs r)(wr:Bw bs r)(hk:0≤k∧k<r.k)(C:bits≤1000000):Gd bs S ls (Pf d.p n.p r.p k bits R D) S:=by
 have y:(r.k:Int)≤65536:=by have:=j.s;have:=j.z;omega
 unfold Pf Tb;have z:Hd 64 bs S [cK R 0,cK (R+1) 1]:=Qu (by omega) (Qu (by omega) okL_nil);have m:K0 D ((R+1)::R::S):=(w.high (by omega)).high (by omega);have o:K0 (D+1) (D::(R+1)::R::S):=m.cons;have a:=p.snoc;have A:K0 (D+1) ((R+2)::(R+4)::(R+5)::D::(R+1)::R::S):=((o.high (by omega)).high (by omega)).high (by omega);refine Gd.mono (Gd.cat (Gd.Lm (T:=(R+1)::R::S) p (by omega) z (by simp[E8,cK];omega) (fun x q=>by simp[E8,cK] at q ⊢;grind)) (Gd.cat (zsq p (by omega) m (by omega) (by simp) j wr) (Gd.cat (Gd.lpD (S':=(R+1)::R::S) p (by omega) m (by omega) (Gd.cat (jd a (by omega) o (by omega) (by omega) (by omega) (by simp) j wr (by omega)) (Gd.cat (j5 a (by omega) o s (by simp) pn j hk okL_nil (by simp)) (Gd.cat (Gd.Lm (T:=(R+6)::(R+2)::(R+4)::(R+5)::D::(R+1)::R::S) a (by omega) (l:=[Ij (R+6) (R+5)]) (zk (by omega) (by omega) (by simp) okL_nil) (by simp[E8,Ij];omega) (by simp[E8,Ij])) (Gd.cat (j5 a (by omega) (A.high (by omega)) s (by simp) pn j hk ?_ ?_) (Gd.Lm a (by omega) (l:=[Fx (R+4) (R+6) (R+2) (R+4),Ff r.p (-1) k (R+4),cK (R+1) 0]) ?_ ?_ ?_))))) fun x h=>h) (j1 p (by omega) m (by omega) pd wd j (by omega))))) (fun x h=>h) (fun x h=>by simp[h])
 ·exact zm3 (by omega) (by omega) (by omega) (by omega) (by simp) (by simp) (by simp) (Ug j wr (by omega) (by omega) (by simp) (by simp) okL_nil)
 ·simp[E8,Fx,Ff];omega
 ·exact zm3 (by omega) (by omega) (by omega) (by omega) (by simp) (by simp) (by simp) (ke j wr (by omega) hk.1 hk.2 (by simp) (Qu (by omega) okL_nil))
 ·simp[E8,Fx,Ff,cK];omega
 ·intro x q;simp at q;rcases q with h|h|h<;>simp[E8,Fx,Ff,cK,h]
structure PwG (bs:List Bf) (p:Pw):Prop where
 B:16≤p.B∧p.B≤40
 d:Bp bs p.d
 wd:Bw bs p.d
 a:Bp bs p.a
 b:Bp bs p.b
 n:Bp bs p.n
 wb:p.wb<bs.length
 wz:((p.wa+4*p.k+p.b.k+3+p.k*2^p.w:Nat):Int)≤(Fk bs p.wb).size
 w6:(Fk bs p.wb).size≤65536
 ww:(Fk bs p.wb).kind≠1
 k:1≤p.k∧p.k≤512
 nk:0<p.n.k
 w:1≤p.w∧p.w≤6
 ti:p.times≤100000
 ov:p.over≤63
 bk:p.b.k≤512
def Pw.gd {p:Pw}(h:PwG bs p)(hL:Ra D ls)(hD:0≤D∧D+3<8)(hS:K0 D S):Gd bs S ls (p.code D) S:=by
 obtain⟨hB,pd,wd,pa,pb,pn,wb,wz,w6,ww,hk,az,hw,aD,aE,aF⟩:=h;have aG:=S5 hw.2;have aH:p.k≤p.k*2^p.w:=Nat.le_mul_of_pos_right _ (Dz _);have wP:∀q:Pn,q.b=p.wb→q.a+q.k≤p.wa+4*p.k+p.b.k+3+p.k*2^p.w→Bp bs q:=fun q e1 e2=>⟨by omega,by rw[e1];omega,by rw[e1];exact w6⟩
 have wW:∀q:Pn,q.b=p.wb→Bw bs q:=fun q e1=>by unfold Bw;rw[e1];exact ww
 have aa:Bp bs p.acc:=wP _ rfl (by simp only[Pw.acc];omega);have aj:Bp bs p.base:=wP _ rfl (by simp only[Pw.base];omega);have ad:Bp bs p.cur:=wP _ rfl (by simp only[Pw.cur];omega);have ao:Bp bs p.es:=wP _ rfl (by simp only[Pw.es];omega);have Pt:Bp bs p.t:=wP _ rfl (by simp only[Pw.t];omega);have aq:Bp bs p.tab:=wP _ rfl (by simp only[Pw.tab];omega);have ap:Bp bs p.ent:=wP _ rfl (by simp only[Pw.ent,Pw.tab];omega);have Pr:Bp bs p.r:=wP _ rfl (by simp only[Pw.r,Pw.t];omega);have mo:∀(d a b:Pn) (E:Int) (ls S:List Int),Bp bs d→Bw bs d→Bp bs a→Bp bs b→0≤E→E+1<8→Ra E ls→Gd bs S ls (p.mont d a b E) S:=fun d a b E ls S hd wd ha hb h1 h2 hL=>Gd.keep0 (bo (by omega) ⟨h1,h2⟩ (fun q=>by have:=hL.2 _ q;omega) (fun q=>by have:=hL.2 _ q;omega) (by have:=hL.1;omega) (hL.lt (by omega)) hd wd ha hb pn Pt (wW _ rfl) (by simp only[Pw.t];omega) az)
 have ra:∀(d:Pn) (bits:Int) (S:List Int),K0 D S→Bp bs d→Bw bs d→bits≤1000000→Gd bs S ls (p.radix d bits D) S:=fun d bits S hS hd wd hb=>Um hL (by omega) hS (by omega) hd wd pn Pr (wW _ rfl) (by simp only[Pw.r];omega) hb
 have cp:∀(to fr:Pn) (S:List Int),K0 D S→Bp bs to→Bw bs to→Bp bs fr→Gd bs S ls (p.copies to fr D) S:=fun to fr S hS ht wt hf=>j1 hL (by omega) hS (by omega) ht wt hf (by omega)
 have ag:K0 D ((p.B:Int)::S):=hS.high (by omega);have af:=hL.snoc;have ah:=af.snoc;have aA:=ah.snoc;unfold Pw.code;refine Gd.mono (Gd.cat (Gd.Lm (T:=(p.B:Int)::S) hL (by omega) (l:=[cK p.B 0]) (Qu (by omega) okL_nil) (by simp[E8,cK];omega) (by simp[E8,cK])) (Gd.cat (S':=(p.B:Int)::S) ?_ (Gd.cat (S':=(p.B:Int)::S) ?_ ?_))) (fun x h=>h) (S':=(p.B:Int)::S) (fun x h=>Az _ h)
 ·unfold Pw.fill Pw.fillR;have ar:K0 D (12::(p.B:Int)::S):=ag.high (by omega);refine Gd.mono (Gd.cat (ra _ _ _ ag ap (wW _ rfl) (by omega)) (Gd.cat (ra _ _ _ ag ad (wW _ rfl) (by omega)) (Gd.cat (mo _ _ _ _ _ _ aj (wW _ rfl) pa ad (by omega) (by omega) hL) (Gd.cat (cp _ _ _ ag aa (wW _ rfl) ap) (Gd.cat (Gd.Lm (T:=12::(p.B:Int)::S) hL (by omega) (l:=[cK 12 (iU p.k)]) (Qu (by omega) okL_nil) (by simp[E8,cK]) (by simp[E8,cK])) (Gd.lpD (S':=12::(p.B:Int)::S) hL (by omega) ar (by omega) (Gd.cat (mo _ _ _ _ _ _ aa (wW _ rfl) aa aj (by omega) (by omega) af) (Gd.cat (Gd.lpD af (by omega) ar.cons (by omega) (Gd.L (l:=[E7 (p.B+3) p.acc.p (D+1) 0,Ew 3 13 12 (D+1),Ff p.tab.p 13 0 (p.B+3)]) (ah.lt (by omega)) ?_ ?_) fun x hx=>Ba _ (Az _ hx)) (Gd.Lm (l:=[cK 13 (iU p.k),Ew 3 12 12 13]) af (by omega) ?_ ?_ ?_))) fun x h=>h)))))) (fun x h=>h) (fun x h=>by simp at h;rcases h with h|h<;>simp[h])
  ·exact Ph aa (by omega) (by omega) (by simp) (U1 (by omega) (by omega) (by omega) (by omega) (by simp) (by simp) (Ug aq (wW _ rfl) (by omega) (by omega) (by simp) (by simp) okL_nil))
  ·simp[E8,E7,Ew,Ff];omega
  ·exact Qu (by omega) (U1 (by omega) (by omega) (by omega) (by omega) (by simp) (by simp) okL_nil)
  ·simp[E8,cK,Ew]
  ·intro x hx;simp at hx;rcases hx with h|h|h<;>simp[E8,cK,Ew,h]
 ·unfold Pw.exp;have aw:K0 D ((p.B+4:Int)::(p.B:Int)::S):=ag.high (by omega);refine Gd.cat (Gd.Lm (T:=(p.B+4:Int)::(p.B:Int)::S) hL (by omega) (l:=[Ij (p.B+4) p.B]) (zk (by omega) (by omega) (by simp) okL_nil) (by simp[E8,Ij];omega) (by simp[E8,Ij])) (Gd.cat (Gd.lpD hL (by omega) aw (by omega) (Gd.L (af.lt (by omega)) ?_ ?_) fun x hx=>Ba _ (Az _ hx)) (Gd.Lm hL (by omega) ?_ ?_ ?_))
  ·unfold Pw.expB;split
   ·exact Ph pb (by omega) (by omega) (by simp) (Ug ao (wW _ rfl) (by omega) (by omega) (by simp) (by simp) okL_nil)
   ·exact Ph pb (by omega) (by omega) (by simp) (zu (.inl rfl) (by omega) (by omega) (by omega) (by simp) (U1 (by omega) (by omega) (by omega) (by omega) (by simp) (by simp) (Ug ao (wW _ rfl) (by omega) (by omega) (by simp) (by simp) (zu (.inr rfl) (by omega) (by omega) (by omega) (by simp) okL_nil))))
  ·unfold Pw.expB;split
   ·simp[E8,E7,Ff];omega
   ·simp[E8,E7,Ff,It,Ew];omega
  ·unfold Pw.expE;split
   ·exact ke ao (wW _ rfl) (by omega) (by omega) (by simp only[Pw.es];omega) (by simp) okL_nil
   ·exact ke ao (wW _ rfl) (by omega) (by omega) (by simp only[Pw.es];omega) (by simp) okL_nil
  ·unfold Pw.expE;split<;>simp[E8,Ff]
  ·intro x hx;exact Ba _ (Az _ hx)
 ·unfold Pw.run Pw.runR Pw.runW Pw.shift Pw.scan Pw.scanR;have ax:K0 (D+1) ((p.B+1:Int)::D::(p.B:Int)::S):=(ag.cons).high (by omega);have aB:K0 (D+1+1) ((p.B+2:Int)::(D+1)::(p.B+1:Int)::D::(p.B:Int)::S):=(ax.cons).high (by omega);have ay:K0 (D+1) (12::(p.B+1:Int)::D::(p.B:Int)::S):=ax.high (by omega);have aw:K0 (D+1+1) ((p.B+5:Int)::(D+1)::12::(p.B+1:Int)::D::(p.B:Int)::S):=(ay.cons).high (by omega);have aC:K0 D ((p.B+3:Int)::(p.B:Int)::S):=ag.high (by omega);refine Gd.mono (Gd.cat (cp _ _ _ ag aa (wW _ rfl) ap) (Gd.cat (Gd.lpD (S':=(p.B:Int)::S) hL (by omega) ag (by omega) (Gd.mono (Gd.cat (Gd.Lm (T:=(p.B+1:Int)::D::(p.B:Int)::S) af (by omega) (l:=[Ij (p.B+1) p.B]) (zk (by omega) (by omega) (by simp) okL_nil) (by simp[E8,Ij];omega) (by simp[E8,Ij])) (Gd.cat (Gd.lpD (S':=(p.B+1:Int)::D::(p.B:Int)::S) af (by omega) ax (by omega) ?_ fun x h=>h) (Gd.cat (S':=(p.B+1:Int)::D::(p.B:Int)::S) ?_ (mo _ _ _ _ _ _ aa (wW _ rfl) aa ad (by omega) (by omega) af)))) (fun x h=>h) (fun x h=>by simp at h;rcases h with h|h<;>simp[h])) fun x h=>h) ?_)) (fun x h=>h) (S':=(p.B+3:Int)::(p.B:Int)::S) (fun x h=>Az _ h)
  ·refine Gd.mono (Gd.cat (mo _ _ _ _ _ _ aa (wW _ rfl) aa aa (by omega) (by omega) ah) (Gd.cat (Gd.Lm (T:=(p.B+2:Int)::(D+1)::(p.B+1:Int)::D::(p.B:Int)::S) ah (by omega) (l:=[Ij (p.B+2) p.B]) (zk (by omega) (by omega) (by simp) okL_nil) (by simp[E8,Ij];omega) (by simp[E8,Ij])) (Gd.cat (jd ah (by omega) aB (by omega) (by omega) (by omega) (by simp) ao (wW _ rfl) (by show ((p.b.k+1:Nat):Int)≤_;omega)) (Gd.Lm (T:=(p.B+1:Int)::D::(p.B:Int)::S) ah (by omega) (l:=[It 8 (p.B+1) (p.B+1) 1,Ew 6 (p.B+1) (p.B+1) (p.B+2)]) ?_ ?_ ?_)))) (fun x h=>h) fun x h=>h
   ·exact zu (.inl rfl) (by omega) (by omega) (by omega) (by simp) (U1 (by omega) (by omega) (by omega) (by omega) (by simp) (by simp) okL_nil)
   ·simp[E8,It,Ew];omega
   ·intro x hx;simp at hx;rcases hx with h|h|h|h<;>simp[E8,It,Ew,h]
  ·refine Gd.mono (Gd.cat (Gd.Lm (T:=12::(p.B+1:Int)::D::(p.B:Int)::S) af (by omega) (l:=[cK 12 0]) (Qu (by omega) okL_nil) (by simp[E8,cK]) (by simp[E8,cK])) (Gd.lpD (S':=12::(p.B+1:Int)::D::(p.B:Int)::S) af (by omega) ay (by omega) (Gd.cat (Gd.Lm (T:=(p.B+5:Int)::(D+1)::12::(p.B+1:Int)::D::(p.B:Int)::S) ah (by omega) (l:=[Ew 7 (p.B+5) (p.B+1) (D+1),Fj 12 (p.B+4) (p.B+5) p.B (p.B+5) p.B]) ?_ ?_ ?_) (Gd.cat (Gd.lpD ah (by omega) aw (by omega) (Gd.L (l:=p.scanB (D+1+1)) (aA.lt (by omega)) ?_ ?_) fun x hx=>Ba _ (Az _ hx)) (Gd.Lm (l:=[cK 13 (iU p.k),Ew 3 12 12 13]) ah (by omega) ?_ ?_ ?_))) fun x h=>h)) (fun x h=>h) (fun x h=>Az _ h)
   ·exact U1 (by omega) (by omega) (by omega) (by omega) (by simp) (by simp) (bx (.inr rfl) (by omega) (by omega) (by omega) (by omega) (by omega) (by omega) (by simp) (by simp) (by simp) okL_nil)
   ·simp[E8,Ew,Fj];omega
   ·intro x hx;simp at hx;rcases hx with h|h|h|h|h|h|h<;>simp[E8,Ew,Fj,h]
   ·unfold Pw.scanB;exact U1 (by omega) (by omega) (by omega) (by omega) (by simp) (by simp) (Ph aq (by omega) (by omega) (by simp) (Ph ad (by omega) (by omega) (by simp) (zm3 (by omega) (by omega) (by omega) (by omega) (by simp) (by simp) (by simp) (Ug ad (wW _ rfl) (by omega) (by omega) (by simp) (by simp) okL_nil))))
   ·simp[Pw.scanB,E8,Ew,E7,Fx,Ff];omega
   ·exact Qu (by omega) (U1 (by omega) (by omega) (by omega) (by omega) (by simp) (by simp) okL_nil)
   ·simp[E8,cK,Ew]
   ·intro x hx;simp at hx;rcases hx with h|h|h|h|h<;>simp[E8,cK,Ew,h]
  ·exact Gd.cat (Gd.Lm (T:=(p.B+3:Int)::(p.B:Int)::S) hL (by omega) (l:=[cK (p.B+3) 1]) (Qu (by omega) okL_nil) (by simp[E8,cK];omega) (by simp[E8,cK])) (Gd.cat (zsq hL (by omega) aC (by omega) (by simp) ad (wW _ rfl)) (Gd.cat (Gd.Lm (T:=(p.B+3:Int)::(p.B:Int)::S) hL (by omega) (l:=[Ff p.cur.p (-1) 0 (p.B+3)]) (ke ad (wW _ rfl) (by omega) (by omega) (by simp only[Pw.cur];omega) (by simp) okL_nil) (by simp[E8,Ff]) (fun x h=>by simp[E8,Ff];simpa using h)) (mo _ _ _ _ _ _ pd wd aa ad (by omega) (by omega) hL)))
end gd
end Go.Sv
namespace Go.Sv
set_option linter.unusedSimpArgs false
def zep {α:Type}:∀f g h:Fr α,(f.cat g).cat h=f.cat (g.cat h)
 |.nil,_,_=>rfl
 |.op o r,g,h=>by rw[Fr.cat,Fr.cat,Fr.cat,zep r g h]
 |.loop o b e r,g,h=>by rw[Fr.cat,Fr.cat,Fr.cat,zep r g h]
def Qm (g:Fr Lo):Fr.cat (E4 []) g=g:=rfl
def Fm (l:List Pn)(m m':Nat→Nat→UInt64):Prop:=∀x y,(∀p∈l,¬(x=p.b∧p.a≤y∧y<p.a+p.k))→m' x y=m x y
section fm
variable {l l' : List Pn} {m m' m'' : Nat → Nat → UInt64} {p q : Pn}
def Fm.trans (h:Fm l m m')(k:Fm l m' m''):Fm l m m'':=fun x y hn=>(k x y hn).trans (h x y hn)
def Fm.mono (h:Fm l m m')(k:∀p∈l,p∈l'):Fm l' m m':=fun x y hn=>h x y fun p hp=>hn p (k p hp)
def Fp.fm (h:Fp p m m')(hp:p∈l):Fm l m m':=fun x y hn=>h x y (hn p hp)
def Fm.pl (h:Fm l m m')(d:∀p∈l,Dj p q){i:Nat}(hi:i<q.k):pl m' q i=pl m q i :=
 h _ _ fun p hp ⟨h1,h2,h3⟩=>by
  rcases d p hp with d|d|d
  ·exact d h1.symm
  ·omega
  ·omega
def Fm.vl (h:Fm l m m')(d:∀p∈l,Dj p q){n:Nat}(hn:n≤q.k):vl (Go.Sv.pl m' q) n=vl (Go.Sv.pl m q) n:=Np fun _ hi=>h.pl d (by omega)
end fm
section ex
variable {sz : Nat → Nat} {s : Fs}
def zyv {d a:Nat}{k:Nat}(hk:k<64):Ih sz (It 9 d a (k:Nat)) s=some (s.put d (UInt64.ofNat ((s.r a).toNat/2^k))):=by
 have e:(iU (k:Int)).toNat=k:=O9 (by omega);simp[Ih,It,Fv,Q9,Rm,Q5,e]
def zqr {d a:Nat}{k:Nat}(hk:k<64):Ih sz (It 8 d a (k:Nat)) s=some (s.put d (UInt64.ofNat ((s.r a).toNat*2^k))):=by
 have e:(iU (k:Int)).toNat=k:=O9 (by omega);simp[Ih,It,Fv,Q9,Rm,Q5,e]
def zjn {x:UInt64}{k:Nat}:(UInt64.ofNat (x.toNat/2^k)).toNat=x.toNat/2^k:=by
 have h:=x.toNat_lt;have:=Nat.div_le_self x.toNat (2^k);simp;omega
def Vi {x b:UInt64}(d:b.toNat≤1):(UInt64.ofNat (x.toNat*2^1) ||| b).toNat=2*x.toNat%18446744073709551616+b.toNat:=by
 have f:=x.toNat_lt;rw[UInt64.toNat_or];have a:(UInt64.ofNat (x.toNat*2^1)).toNat=2^1*(x.toNat%2^63):=by
  simp;omega
 rw[a,←Nat.two_pow_add_eq_or_of_lt (show b.toNat<2^1 by omega)];omega
def Xc {x b:UInt64}(a:b.toNat≤1):(UInt64.ofNat (x.toNat*2^1) ||| b).toNat+18446744073709551616*(UInt64.ofNat (x.toNat/2^63)).toNat=2*x.toNat+b.toNat∧(UInt64.ofNat (x.toNat/2^63)).toNat≤1:=by
 have d:=x.toNat_lt;rw[Vi a,zjn];omega
def qg {P W v r V x q b r':Nat}(h:v+P*r=2*V+b)(k:q+W*r'=2*x+r):v+q*P+P*W*r'=2*(V+x*P)+b:=by
 have a:P*(q+W*r')=P*(2*x+r):=by rw[k]
 grind
def kf {p:Pn}{n l o b D:Nat}(H:p.in_ sz)(M:n≤p.k)(hd:l≠o∧l≠b∧l≠D∧o≠b∧o≠D∧b≠D)(I:(s.r b).toNat≤1) :
  Tx sz (Qi p.p n l o b D) s fun a=>(∀z,z≠l→z≠o→z≠b→z≠D→a.r z=s.r z)∧Fp p s.m a.m∧(a.r b).toNat≤1∧vl (pl a.m p) n+18446744073709551616^n*(a.r b).toNat=2*vl (pl s.m p) n+(s.r b).toNat:=by
 obtain⟨N,y⟩:=H;obtain⟨d1,d2,d3,d4,d5,d6⟩:=hd;have e:Qi p.p n l o b D=Gk (D:Nat) (n:Nat) (E4 [E7 (l:Nat) p.p (D:Nat) ((0:Nat):Int),It 9 (o:Nat) (l:Nat) ((63:Nat):Int),It 8 (l:Nat) (l:Nat) ((1:Nat):Int),Ew 6 (l:Nat) (l:Nat) (b:Nat),Ff p.p (D:Nat) ((0:Nat):Int) (l:Nat),Ij (b:Nat) (o:Nat)]):=rfl;rw[e];refine .lp (fun j s1=>(∀z,z≠l→z≠o→z≠b→z≠D→s1.r z=s.r z)∧Fp p s.m s1.m∧(s1.r b).toNat≤1∧(∀i,j≤i→pl s1.m p i=pl s.m p i)∧vl (pl s1.m p) j+18446744073709551616^j*(s1.r b).toNat=2*vl (pl s.m p) j+(s.r b).toNat)
  ⟨fun _ _ _ _ _=>rfl,fun _ _ _=>rfl,I,fun _ _=>rfl,by simp[vl]⟩ (by omega) (fun j s1 O ⟨g1,J,K,A,v1⟩=>?_) fun _ h=>⟨h.1,h.2.1,h.2.2.1,h.2.2.2.2⟩
 have f:((s1.put D (UInt64.ofNat j)).r D).toNat=j:=by simp[Ez];omega
 have d:(UInt64.ofNat j).toNat=j:=Ro (by omega);refine .op (Pk (by rw[f];omega) y) (.op (zyv (by omega)) (.op (zqr (by omega)) (.op zw9 ?_)));simp only[Ez,Gy,Bu,Ab d1,Ab d2.symm,Ab d4.symm,Ab d6,Ab d1.symm,d,Bd];have w:=Xc (x:=pl s1.m p j) K;obtain⟨B,L⟩:=w;refine .op (W0 (by simp only[Ez,Ab d3.symm,Ab d5.symm,Bu];rw[Ro (by omega)];omega) y) (.op ud (.nil ⟨fun z C E F G=>?_,?_,?_,fun i hi=>?_,?_⟩))
 ·simp only[Ez,Kd,Ab C,Ab E,Ab F,Ab G];exact g1 z C E F G
 ·refine J.trans ?_;rw[Gy];refine Oe (p:=p) ?_;simp only[Ez,Ab d3.symm,Ab d5.symm,Bu];rw[Ro (by omega)];omega
 ·simp only[Ez,Kd,Bu,Ab d1.symm,Bd];exact L
 ·rw[Gy,I4];simp only[Ez,Ab d3.symm,Ab d5.symm,Bu];rw[Ro (by omega),Ab (by omega)];exact A i (by omega)
 ·rw[Gy,I3,I3,I4];simp only[Ez,Kd,Ab d3.symm,Ab d5.symm,Bu,Ab d1.symm,Bd];rw[d,Ai rfl,Bh,Np (g:=pl s1.m p) fun i hi=>by rw[I4,Ab (by omega)];rfl];rw[A j (Am _)] at B ⊢;exact qg v1 B
def Wp {to fr:Pn}{k l D:Nat}(x:to.in_ sz)(y:fr.in_ sz)(B:k≤to.k)(C:k≤fr.k)(a:l≠D)(A:Dj to fr) :
  Tx sz (Rr to.p fr.p k l D) s fun d=>(∀z,z≠l→z≠D→d.r z=s.r z)∧Fp to s.m d.m∧∀i,i<k→pl d.m to i=pl s.m fr i:=by
 obtain⟨t1,t2⟩:=x;obtain⟨f1,f2⟩:=y;have e:Rr to.p fr.p k l D=Gk (D:Nat) (k:Nat) (E4 [E7 (l:Nat) fr.p (D:Nat) ((0:Nat):Int),Ff to.p (D:Nat) ((0:Nat):Int) (l:Nat)]):=rfl;rw[e];refine .lp (fun j s1=>(∀z,z≠l→z≠D→s1.r z=s.r z)∧Fp to s.m s1.m∧∀i,i<j→pl s1.m to i=pl s.m fr i)
  ⟨fun _ _ _=>rfl,fun _ _ _=>rfl,fun _ h=>absurd h (by omega)⟩ (by omega) (fun j s1 E ⟨g1,g,v1⟩=>?_) fun _ h=>h
 have f:((s1.put D (UInt64.ofNat j)).r D).toNat=j:=by simp[Ez];omega
 refine .op (Pk (by rw[f];omega) f2) (.op (W0 (by simp only[Ez,Ab a.symm,Bu];rw[Ro (by omega)];omega) t2) (.nil ⟨fun z o w=>?_,?_,fun i hi=>?_⟩))
 ·simp only[Ez,Kd,Ab o,Ab w];exact g1 z o w
 ·refine g.trans ?_;refine Oe (p:=to) ?_;simp only[Ez,Ab a.symm,Bu];rw[Ro (by omega)];omega
 ·rw[I4];simp only[Ez,Gy,Ab a.symm,Bu,Bd];rw[Ro (by omega)];split
  ·rename_i q;rw[q];exact g.pl A (by omega)
  ·exact v1 i (by omega)
def znp {R D j:Nat}{n r:Pn}{c:Bool}(F:D<R)(a:(s.r D).toNat=j)(g:s.r (R+5)=F2 c)(o:n.in_ sz)(w:r.in_ sz)(G:j<n.k)(H:j<r.k)(x:List Lo)(Q:Fs→Prop)
  (h:∀(s1:Fs) (b:Bool),s1.m=s.m→s1.r (R+5)=F2 b→s1.r (R+2)=pl s.m r j→(s1.r (R+4)).toNat+(pl s.m n j).toNat+c.toNat=(pl s.m r j).toNat+18446744073709551616*b.toNat→(∀z,z≠R+2→z≠R+4→z≠R+5→s1.r z=s.r z)→Tx sz (E4 x) s1 Q) :
  Tx sz (E4 (Nu n.p r.p R D++x)) s Q:=by
 obtain⟨y,d⟩:=o;obtain⟨A,f⟩:=w;have e:Nu n.p r.p R D++x=E7 ((R+2:Nat):Int) r.p (D:Nat) ((0:Nat):Int)::E7 ((R+4:Nat):Int) n.p (D:Nat) ((0:Nat):Int)::Fj 12 ((R+4:Nat):Int) ((R+5:Nat):Int) ((R+2:Nat):Int) ((R+4:Nat):Int) ((R+5:Nat):Int)::x:=rfl;rw[e];have dn:∀n,n<11→¬D=R+n:=fun n h=>by omega
 refine .op (Pk (by omega) f) (.op (Pk (by simp only[Ez,Ab (dn 2 (by omega))];omega) d) (.op zg ?_));have hv:=zo (pl s.m r j) (pl s.m n j) c;refine h _ (Gx (pl s.m r j) (pl s.m n j) c).2 rfl ?_ ?_ ?_ fun z B C E=>?_
 ·simp[Ez,Gy,dn,a,g,W6]
 ·simp[Ez,Gy,dn,a]
 ·simpa [Ez,Gy,dn,a,g,W6] using hv
 ·simp[Ez,B,C,E]
def ztf {R k:Nat}{r:Pn}{c:Bool}(d:s.r R=0)(f:s.r (R+5)=F2 c)(j:r.in_ sz)(A:k<r.k)(g:Fr Lo)(Q:Fs→Prop)
  (h:∀(s1:Fs) (b:Bool),s1.m=s.m→s1.r (R+5)=F2 b→s1.r (R+2)=pl s.m r k→(s1.r (R+4)).toNat+c.toNat=(pl s.m r k).toNat+18446744073709551616*b.toNat→(∀z,z≠R+2→z≠R+4→z≠R+5→s1.r z=s.r z)→Tx sz g s1 Q) :
  Tx sz ((E4 [E7 ((R:Int)+2) r.p (-1) (k:Nat),Fj 12 ((R:Int)+4) ((R:Int)+5) ((R:Int)+2) (R:Nat) ((R:Int)+5)]).cat g) s Q:=by
 obtain⟨o,a⟩:=j;have e:[E7 ((R:Int)+2) r.p (-1) (k:Nat),Fj 12 ((R:Int)+4) ((R:Int)+5) ((R:Int)+2) (R:Nat) ((R:Int)+5)]=[E7 ((R+2:Nat):Int) r.p (-1) (k:Nat),Fj 12 ((R+4:Nat):Int) ((R+5:Nat):Int) ((R+2:Nat):Int) (R:Nat) ((R+5:Nat):Int)]:=rfl;rw[e];refine .op (su (by omega) a) (.op zg ?_);have hv:=zo (pl s.m r k) 0 c;refine h _ (Gx (pl s.m r k) 0 c).2 rfl ?_ ?_ ?_ fun z w x y=>?_
 ·simp[Ez,d,f,W6]
 ·simp[Ez]
 ·simpa [Ez,d,f,W6] using hv
 ·simp[Ez,w,x,y]
def Xx (R z:Nat):Prop:=z=R+2∨z=R+4∨z=R+5
def gh {R D k:Nat}{n r:Pn}(C:D<R)(E:s.r R=0)(F:n.in_ sz)(d:r.in_ sz)(J:k≤n.k)(G:k<r.k) :
  Tx sz (Oa n.p r.p k R D []) s fun g=>(∀z,¬Xx R z→z≠D→g.r z=s.r z)∧g.m=s.m∧∃(c:Bool) (v:Nat),g.r (R+5)=F2 c∧v<18446744073709551616^(k+1)∧v+vl (pl s.m n) k=vl (pl s.m r) (k+1)+18446744073709551616^(k+1)*c.toNat:=by
 have H:k<18446744073709551616:=by have:=d.1;have:=d.2;omega
 have e:Oa n.p r.p k R D []=(E4 [cK ((R+5:Nat):Int) 0]).cat ((Gk (D:Nat) (k:Nat) (E4 (Nu n.p r.p R D++[]))).cat ((E4 [E7 ((R:Int)+2) r.p (-1) (k:Nat),Fj 12 ((R:Int)+4) ((R:Int)+5) ((R:Int)+2) (R:Nat) ((R:Int)+5)]).cat .nil)):=rfl;rw[e];unfold Xx;refine .op N0 ?_;rw[Qm];refine .cat (R:=fun s1=>(∀z,¬(z=R+2∨z=R+4∨z=R+5)→z≠D→s1.r z=s.r z)∧s1.m=s.m∧∃(c:Bool) (v:Nat),s1.r (R+5)=F2 c∧v<18446744073709551616^k∧v+vl (pl s.m n) k=vl (pl s.m r) k+18446744073709551616^k*c.toNat) ?_ fun s1 ⟨g1,m1,c,v,o,I,v1⟩=>?_
 ·refine .lp (fun j s1=>(∀z,¬(z=R+2∨z=R+4∨z=R+5)→z≠D→s1.r z=s.r z)∧s1.m=s.m∧∃(c:Bool) (v:Nat),s1.r (R+5)=F2 c∧v<18446744073709551616^j∧v+vl (pl s.m n) j=vl (pl s.m r) j+18446744073709551616^j*c.toNat) ⟨fun z f _=>?_,rfl,false,0,by rw[Ez,Ai rfl];rfl,by simp,by simp[vl]⟩ H (fun j s1 K ⟨g1,m1,c,v,o,I,v1⟩=>?_) fun _ h=>h
  ·rw[Ez,Ab (by omega)]
  ·refine znp (j:=j) (c:=c) C (by simp[Ez];omega) (by rw[Ez,Ab (by omega),o]) F d (by omega) (by omega) _ _ fun s2 b w y t2 v2 A=>.nil ⟨fun z f a=>?_,by rw[w,Gy,m1],b,v+(s2.r (R+4)).toNat*18446744073709551616^j,y,?_,?_⟩
   ·rw[A z (by omega) (by omega) (by omega),Ez,Ab a,g1 z f a]
   ·have:=(s2.r (R+4)).toNat_lt;have B:=At (18446744073709551616^j) (show (s2.r (R+4)).toNat+1≤18446744073709551616 by omega);rw[Bb,Cm] at B;rw[Bh,Bz (18446744073709551616^j)];omega
   ·rw[Gy,m1] at v2;rw[I3,I3,Bh];exact vy v1 v2
 ·refine ztf (c:=c) (by rw[g1 R (by omega) (by omega),E]) o d G _ _ fun s2 b w y t2 v2 A=>.nil ⟨fun z f a=>?_,by rw[w,m1],b,v+(s2.r (R+4)).toNat*18446744073709551616^k,y,?_,?_⟩
  ·rw[A z (by omega) (by omega) (by omega),g1 z f a]
  ·have:=(s2.r (R+4)).toNat_lt;have B:=At (18446744073709551616^k) (show (s2.r (R+4)).toNat+1≤18446744073709551616 by omega);rw[Bb,Cm] at B;rw[Bh,Bz (18446744073709551616^k)];omega
  ·rw[m1] at v2;rw[I3,Bh];have:=vy (x:=0) v1 (by simpa using v2);simpa using this
def fx {R D k:Nat}{n r:Pn}{p:Bool}(M:D<R)(N:s.r R=0)(K:s.r (R+6)=F2 p)(O:n.in_ sz)(y:r.in_ sz)(Y:k≤n.k)(P:k<r.k)(Q:Dj r n) :
  Tx sz ((Oa n.p r.p k R D [Fx ((R:Int)+4) ((R:Int)+6) ((R:Int)+2) ((R:Int)+4),Ff r.p D 0 ((R:Int)+4)]).cat (E4 [Fx ((R:Int)+4) ((R:Int)+6) ((R:Int)+2) ((R:Int)+4),Ff r.p (-1) k ((R:Int)+4),cK ((R:Int)+1) 0])) s fun C =>
   (∀z,¬Xx R z→z≠R+1→z≠D→C.r z=s.r z)∧Fp r s.m C.m∧C.r (R+1)=0∧∃(c:Bool) (v:Nat),v<18446744073709551616^(k+1)∧v+vl (pl s.m n) k=vl (pl s.m r) (k+1)+18446744073709551616^(k+1)*c.toNat∧vl (pl C.m r) (k+1)=if p=true then vl (pl s.m r) (k+1) else v:=by
 have S:k<18446744073709551616:=by have:=y.1;have:=y.2;omega
 have T:=y.1;have B:=y.2;have e:∀g:Fr Lo,(Oa n.p r.p k R D [Fx ((R:Int)+4) ((R:Int)+6) ((R:Int)+2) ((R:Int)+4),Ff r.p D 0 ((R:Int)+4)]).cat g=(E4 [cK ((R+5:Nat):Int) 0]).cat ((Gk (D:Nat) (k:Nat) (E4 (Nu n.p r.p R D++[Fx ((R+4:Nat):Int) ((R+6:Nat):Int) ((R+2:Nat):Int) ((R+4:Nat):Int),Ff r.p (D:Nat) ((0:Nat):Int) ((R+4:Nat):Int)]))).cat ((E4 [E7 ((R:Int)+2) r.p (-1) (k:Nat),Fj 12 ((R:Int)+4) ((R:Int)+5) ((R:Int)+2) (R:Nat) ((R:Int)+5)]).cat g)):=fun g=>by
  unfold Oa;rw[zep,zep];rfl
 rw[e];unfold Xx;refine .op N0 ?_;rw[Qm];refine .cat (R:=fun s1=>(∀z,¬(z=R+2∨z=R+4∨z=R+5)→z≠D→s1.r z=s.r z)∧Fp r s.m s1.m∧(∀i,k≤i→pl s1.m r i=pl s.m r i)∧∃(c:Bool) (v:Nat),s1.r (R+5)=F2 c∧v<18446744073709551616^k∧v+vl (pl s.m n) k=vl (pl s.m r) k+18446744073709551616^k*c.toNat∧vl (pl s1.m r) k=if p=true then vl (pl s.m r) k else v) ?_ fun s1 ⟨g1,E,F,c,v,H,U,v1,I⟩=>?_
 ·refine .lp (fun j s1=>(∀z,¬(z=R+2∨z=R+4∨z=R+5)→z≠D→s1.r z=s.r z)∧Fp r s.m s1.m∧(∀i,j≤i→pl s1.m r i=pl s.m r i)∧∃(c:Bool) (v:Nat),s1.r (R+5)=F2 c∧v<18446744073709551616^j∧v+vl (pl s.m n) j=vl (pl s.m r) j+18446744073709551616^j*c.toNat∧vl (pl s1.m r) j=if p=true then vl (pl s.m r) j else v) ⟨fun z G _=>?_,fun _ _ _=>rfl,fun _ _=>rfl,false,0,by rw[Ez,Ai rfl];rfl,by simp,by simp[vl],by simp[vl]⟩ S (fun j s1 Z ⟨g1,E,F,c,v,H,U,v1,I⟩=>?_) fun _ h=>h
  ·rw[Ez,Ab (by omega)]
  ·refine znp (j:=j) (c:=c) M (by simp[Ez];omega) (by rw[Ez,Ab (by omega),H]) O y (by omega) (by omega) _ _ fun s2 b f L t2 v2 A=>?_
   have V:(s2.r D).toNat=j:=by rw[A D (by omega) (by omega) (by omega)];simp[Ez];omega
   rw[Gy] at t2 v2 f;rw[F j (Am _)] at t2 v2;rw[E.pl Q (by omega)] at v2;have o:s2.r (R+6)=F2 p:=by rw[A _ (by omega) (by omega) (by omega),Ez,Ab (by omega),g1 _ (by omega) (by omega),K]
   refine .op zm5 (.op (W0 (by simp only[Ez];rw[Ab (by omega)];omega) B) (.nil ⟨fun z G a=>?_,?_,fun i hi=>?_,b,v+(s2.r (R+4)).toNat*18446744073709551616^j,?_,?_,?_,?_⟩))
   ·rw[Kd,Ez,Ab (by omega),A z (by omega) (by omega) (by omega),Ez,Ab a,g1 z G a]
   ·refine E.trans (f ▸ ?_);exact Oe (p:=r) (s:=s2.put _ _) (by rw[Ez,Ab (by omega)];omega)
   ·have w:0+((s2.put (R+4) (if s2.r (R+6)%2=1 then s2.r (R+2) else s2.r (R+4))).r D).toNat=j:=by rw[Ez,Ab (by omega)];omega
    rw[w,I4,Ab (by omega),Gy,f];exact F i (by omega)
   ·rw[Kd,Ez,Ab (by omega),L]
   ·have:=(s2.r (R+4)).toNat_lt;have J:=At (18446744073709551616^j) (show (s2.r (R+4)).toNat+1≤18446744073709551616 by omega);rw[Bb,Cm] at J;rw[Bh,Bz (18446744073709551616^j)];omega
   ·rw[I3,I3,Bh];exact vy v1 v2
   ·have w:0+((s2.put (R+4) (if s2.r (R+6)%2=1 then s2.r (R+2) else s2.r (R+4))).r D).toNat=j:=by rw[Ez,Ab (by omega)];omega
    rw[I3,w,I4,Ai rfl,Np (g:=pl s1.m r) (n:=j) fun i hi=>by rw[I4,Ab (by omega),Gy,f],I,Ez,Ai rfl,o,t2];have d:=W6 p;cases p
    ·simp at d;simp[d]
    ·simp at d;simp[d,I3]
 ·refine ztf (c:=c) (by rw[g1 R (by omega) (by omega),N]) H y P _ _ fun s2 b f L t2 v2 A=>?_
  rw[F k (Am _)] at t2 v2;have o:s2.r (R+6)=F2 p:=by rw[A _ (by omega) (by omega) (by omega),g1 _ (by omega) (by omega),K]
  have W:[Fx ((R:Int)+4) ((R:Int)+6) ((R:Int)+2) ((R:Int)+4),Ff r.p (-1) (k:Nat) ((R:Int)+4),cK ((R:Int)+1) 0]=[Fx ((R+4:Nat):Int) ((R+6:Nat):Int) ((R+2:Nat):Int) ((R+4:Nat):Int),Ff r.p (-1) (k:Nat) ((R+4:Nat):Int),cK ((R+1:Nat):Int) 0]:=rfl;rw[W];refine .op zm5 (.op (jr (by omega) B) (.op N0 (.nil ⟨fun z G X a=>?_,?_,by simp[Ez],b,v+(s2.r (R+4)).toNat*18446744073709551616^k,?_,?_,?_⟩)))
  ·rw[Ez,Ab X,Kd,Ez,Ab (by omega),A z (by omega) (by omega) (by omega),g1 z G a]
  ·refine E.trans (f ▸ ?_);exact Oe (p:=r) (s:=s2.put _ _) (by omega)
  ·have:=(s2.r (R+4)).toNat_lt;have J:=At (18446744073709551616^k) (show (s2.r (R+4)).toNat+1≤18446744073709551616 by omega);rw[Bb,Cm] at J;rw[Bh,Bz (18446744073709551616^k)];omega
  ·rw[I3,Bh];have:=vy (x:=0) v1 (by simpa using v2);simpa using this
  ·rw[Gy,I3,I4,Ai rfl,Np (g:=pl s1.m r) (n:=k) fun i hi=>by rw[I4,Ab (by omega),Gy,f],I,Ez,Ai rfl,o,t2];have d:=W6 p;cases p
   ·simp at d;simp[d]
   ·simp at d;simp[d,I3]
end ex
end Go.Sv
namespace Go.Sv
set_option linter.unusedSimpArgs false
def Fm.inn {l:List Pn}{q:Pn}{m m':Nat→Nat→UInt64}(h:Fm l m m')(k:∀p∈l,p.b=q.b∧q.a≤p.a∧p.a+p.k≤q.a+q.k):Fm [q] m m':=fun x y hn=>h x y fun p hp ⟨h1,h2,h3⟩=>hn q (by simp) (by have:=k p hp;omega)
def o0 {P N X v a c c':Nat}(g:c≤1)(d:c'≤1)(j:v<P)(l:v+N=X+P*c)(m:a<P)(o:a+N=X+P*c')(q:X<2*N):(c=1→X%N=X)∧(c=0→a=X%N):=by
 have e:c=0∨c=1:=by omega
 have f:c'=0∨c'=1:=by omega
 have hm:N≤X→X%N=X - N:=fun h=>by rw[Nat.mod_eq_sub_mod h,Be (by omega)]
 rcases e with rfl|rfl<;>rcases f with rfl|rfl<;>simp at *
 ·have:=hm (by omega);omega
 ·omega
 ·exact Be (by omega)
 ·exact Be (by omega)
def mj {v P b X N Q:Nat}(h:v+P*b=X)(a:b=0∨b=1)(d:X<2*N)(f:N<Q)(g:P=Q*18446744073709551616):v=X:=by
 rcases a with rfl|rfl<;>omega
def zpl {p:Pn}{t:Fs}{m:Nat→Nat→UInt64}{i:Nat}{v:UInt64}(h:t.m=m)(hi:i<p.k):Fp p m (t.sto p.b (p.a+i) v).m:=h ▸ Oe hi
section ex
variable {sz : Nat → Nat} {s : Fs}
def zth {R D k bits:Nat}{d n r:Pn}(hD:D+1<R)(hd:d.in_ sz)(U:n.in_ sz)(y:r.in_ sz)(kd:k≤d.k)(H:k≤n.k)(kr:r.k=k+1)(V:Dj r n)(dr:Dj d r)(hb:bits≤1000000) :
  Tx sz (Pf d.p n.p r.p k bits R D) s fun I=>(∀z,¬(R≤z∧z≤R+6)→z≠D→z≠D+1→I.r z=s.r z)∧Fm [d,r] s.m I.m∧(0<vl (pl s.m n) k→vl (pl I.m d) k=2^bits%vl (pl s.m n) k):=by
 have aa:=y.1;have ad:=y.2;have e:Pf d.p n.p r.p k bits R D=(E4 [cK (R:Nat) 0,cK ((R+1:Nat):Int) 1]).cat ((Ke r.p (R:Nat) (D:Nat)).cat ((Gk (D:Nat) ((bits+1:Nat):Int) ((Qi r.p ((k+1:Nat):Int) ((R+2:Nat):Int) ((R+3:Nat):Int) ((R+1:Nat):Int) ((D+1:Nat):Int)).cat ((Oa n.p r.p k R ((D+1:Nat):Int) []).cat ((E4 [Ij ((R+6:Nat):Int) ((R+5:Nat):Int)]).cat ((Oa n.p r.p k R ((D+1:Nat):Int) [Fx ((R:Int)+4) ((R:Int)+6) ((R:Int)+2) ((R:Int)+4),Ff r.p ((D+1:Nat):Int) 0 ((R:Int)+4)]).cat (E4 [Fx ((R:Int)+4) ((R:Int)+6) ((R:Int)+2) ((R:Int)+4),Ff r.p (-1) k ((R:Int)+4),cK ((R:Int)+1) 0])))))).cat (Rr d.p r.p k ((R+2:Nat):Int) (D:Nat)))):=rfl;rw[e];refine .op N0 (.op N0 ?_);rw[Qm];refine (zri y (by omega)).cat fun s1 ⟨g1,W,X⟩=>?_
 simp only[Gy,Ez,Bu] at g1 W X;have J:∀i,i<r.k→pl s1.m r i=0:=fun i hi=>by rw[X i hi,Ab (by omega)]
 refine .cat (R:=fun s2=>(∀z,¬(R≤z∧z≤R+6)→z≠D→z≠D+1→s2.r z=s.r z)∧s2.r R=0∧Fp r s.m s2.m∧(s2.r (R+1)).toNat≤1∧(0<vl (pl s.m n) k→2*vl (pl s2.m r) (k+1)+(s2.r (R+1)).toNat<2*vl (pl s.m n) k∧(2*vl (pl s2.m r) (k+1)+(s2.r (R+1)).toNat)%vl (pl s.m n) k=2^(bits+1)%vl (pl s.m n) k∧vl (pl s2.m r) (k+1)=2^bits%vl (pl s.m n) k)) ?_ fun s2 ⟨g2,Y,K,Z,v2⟩=>?_
 ·refine .lp (fun i s2=>(∀z,¬(R≤z∧z≤R+6)→z≠D→z≠D+1→s2.r z=s.r z)∧s2.r R=0∧Fp r s.m s2.m∧(s2.r (R+1)).toNat≤1∧(0<vl (pl s.m n) k→2*vl (pl s2.m r) (k+1)+(s2.r (R+1)).toNat<2*vl (pl s.m n) k∧(2*vl (pl s2.m r) (k+1)+(s2.r (R+1)).toNat)%vl (pl s.m n) k=2^i%vl (pl s.m n) k∧(0<i→vl (pl s2.m r) (k+1)=2^(i - 1)%vl (pl s.m n) k)))
   ⟨fun z B f x=>?_,?_,W,?_,fun j=>?_⟩ (by omega) (fun i s2 hi ⟨g2,Y,K,Z,v2⟩=>?_) fun m ⟨a,b,c,d,e⟩=>⟨a,b,c,d,fun j=>⟨(e j).1,(e j).2.1,(e j).2.2 (by omega)⟩⟩
  ·rw[g1 z f,Ab (by omega),Ab (by omega)]
  ·rw[g1 R (by omega),Ab (by omega),Ai rfl]
  ·rw[g1 (R+1) (by omega),Ai rfl];decide
  ·rw[y8 fun i hi=>J i (by omega),g1 (R+1) (by omega),Ai rfl];refine⟨?_,by simp,fun h=>absurd h (by omega)⟩;show 2*0+1<_;omega
  ·have E:∀z,z≠D→(s2.put D (UInt64.ofNat i)).r z=s2.r z:=fun z hz=>by rw[Ez,Ab hz]
   refine (kf (p:=r) (n:=k+1) (l:=R+2) (o:=R+3) (b:=R+1) (D:=D+1) y (by omega) (by omega) (by rw[E _ (by omega)];exact Z)).cat fun m ⟨g3,F,b3,G⟩=>?_
   rw[E (R+1) (by omega),Gy] at G;rw[Gy] at F;have L:m.r R=0:=by rw[g3 R (by omega) (by omega) (by omega) (by omega),E R (by omega),Y]
   refine (gh (k:=k) (by omega) L U y H (by omega)).cat fun s4 ⟨g4,m4,c,v,c4,l4,v4⟩=>?_
   refine .op ud ?_;rw[Qm];have A:∀z,¬Xx R z→z≠R+6→z≠D+1→(s4.put (R+6) (s4.r (R+5))).r z=m.r z:=fun z B f x=>by rw[Ez,Ab f,g4 z B x]
   have C:=K.trans F;refine (fx (p:=c) (k:=k) (by omega) (by rw[A R (by unfold Xx;omega) (by omega) (by omega),L]) (by rw[Ez,Ai rfl,c4]) U y H (by omega) V).mono fun s5 ⟨g5,o5,b5,c',v',l5,M,w5⟩=>?_
   rw[Gy,m4] at o5 M w5;rw[C.vl V H] at v4 M;refine⟨fun z B f x=>?_,?_,C.trans o5,by rw[b5];decide,fun j=>?_⟩
   ·rw[g5 z (by unfold Xx;omega) (by omega) x,A z (by unfold Xx;omega) (by omega) x,g3 z (by omega) (by omega) (by omega) x,E z f,g2 z B f x]
   ·rw[g5 R (by unfold Xx;omega) (by omega) (by omega),A R (by unfold Xx;omega) (by omega) (by omega),L]
   ·obtain⟨N,O,_⟩:=v2 j;have P:=zwm (pl s.m n) k;have Q:(m.r (R+1)).toNat=0∨(m.r (R+1)).toNat=1:=by omega
    have hP:(18446744073709551616:Nat)^(k+1)=18446744073709551616^k*18446744073709551616:=Bh ..;have hX:vl (pl m.m r) (k+1)=2*vl (pl s2.m r) (k+1)+(s2.r (R+1)).toNat:=by
     exact mj G Q N P hP
    rw[←hX] at N O;have S:c.toNat≤1:=by cases c<;>decide
    have T:c'.toNat≤1:=by cases c'<;>decide
    obtain⟨q1,q2⟩:=o0 S T l4 v4 l5 M N;have hV:vl (pl s5.m r) (k+1)=vl (pl m.m r) (k+1)%vl (pl s.m n) k:=by
     rw[w5];cases c
     ·rw[Ab (by simp)];exact q2 rfl
     ·rw[Ai rfl];exact (q1 rfl).symm
    have af:=Df (vl (pl m.m r) (k+1)) j;rw[b5,hV];refine⟨by simp;omega,?_,fun _=>by rw[O,Nat.add_sub_cancel]⟩;show (2*(vl (pl m.m r) (k+1)%vl (pl s.m n) k)+0)%_=_;rw[C5,O,Bh,Bz (2^i)]
    conv=>lhs;rw[B1,Nat.mod_mod,←B1]
 ·refine (Wp (to:=d) (fr:=r) (k:=k) (l:=R+2) (D:=D) hd y kd (by omega) (by omega) dr).mono fun m ⟨g3,F,G⟩=>⟨fun z B f x=>?_,?_,fun j=>?_⟩
  ·rw[g3 z (by omega) f,g2 z B f x]
  ·exact (K.fm (by simp)).trans (F.fm (by simp))
  ·obtain⟨_,_,w⟩:=v2 j;have f:vl (pl s2.m r) (k+1)<18446744073709551616^k:=by
    rw[w];exact Nat.lt_trans (Df _ j) (zwm _ _)
   rw[Np (g:=pl s2.m r) G,←w,I3];rw[I3] at f;have:(pl s2.m r k).toNat=0:=by
    rcases Nat.eq_zero_or_pos (pl s2.m r k).toNat with q|q
    ·exact q
    ·have:=D6 (18446744073709551616^k) q;omega
   rw[this];omega
def Pw.wk (p:Pw):Pn:=⟨p.wb,p.wa,4*p.k+p.b.k+3+p.k*2^p.w⟩
def Pw.en (p:Pw)(e:Nat):Pn:=⟨p.wb,p.wa+4*p.k+p.b.k+3+e*p.k,p.k⟩
structure PwS (sz:Nat→Nat) (p:Pw):Prop where
 B:16≤p.B∧p.B≤40
 d:p.d.in_ sz
 a:p.a.in_ sz
 b:p.b.in_ sz
 n:p.n.in_ sz
 wk:p.wk.in_ sz
 k:1≤p.k
 kb:p.k≤512
 dk:p.d.k=p.k
 ak:p.a.k=p.k
 nk:p.n.k=p.k
 db:p.d.b≠p.wb
 ab:p.a.b≠p.wb
 bb:p.b.b≠p.wb
 nb:p.n.b≠p.wb
 dn:ss p.d p.n
 w:1≤p.w∧p.w≤6
 ov:p.over≤63
 ti:p.times*p.w=64*p.b.k+p.over
section pieces
variable {p : Pw}
def pk {e:Nat}(he:e<2^p.w):e*p.k+p.k≤p.k*2^p.w:=by
 have:=At p.k (show e+1≤2^p.w by omega);rw[Bb,Cm,Bz (2^p.w)] at this;exact this
def Pz (a:PwS sz p){q:Pn}(d:q.b=p.wb)(g:q.a+q.k≤p.wa+(4*p.k+p.b.k+3+p.k*2^p.w)):q.in_ sz:=by
 have f:=a.wk;unfold Pn.in_ at *;rw[d];simp only[Pw.wk] at f;omega
def jw (p:Pw):p.k≤p.k*2^p.w:=Nat.le_mul_of_pos_right _ (Dz _)
def oj {x o:UInt64}{m:Nat}(hm:m<64)(ho:o.toNat<2^m):(UInt64.ofNat (x.toNat*2^m) ||| o).toNat+18446744073709551616*(x.toNat/2^(64 - m))=2^m*x.toNat+o.toNat:=by
 have f:=x.toNat_lt;have a:(18446744073709551616:Nat)=2^m*2^(64 - m):=by rw[←D4,show m+(64 - m)=64 by omega]
 have d:(UInt64.ofNat (x.toNat*2^m)).toNat=2^m*(x.toNat%2^(64 - m)):=by
  rw[By,show (2:Nat)^64=2^m*2^(64 - m) from a,Bz x.toNat,Nat.mul_mod_mul_left]
 rw[UInt64.toNat_or,d,←Nat.two_pow_add_eq_or_of_lt ho,a];have:=Nat.div_add_mod x.toNat (2^(64 - m));generalize x.toNat/2^(64 - m)=q at *;generalize x.toNat%2^(64 - m)=r at *;rw[←this,Nat.mul_add,Dq];omega
def Zj {P W V r M x q r' v:Nat}(h:v+P*r=M*V)(k:q+W*r'=M*x+r):v+q*P+P*W*r'=M*(V+x*P):=by
 have a:P*(q+W*r')=P*(M*x+r):=by rw[k]
 grind
def pq (w:PwS sz p){D:Nat}(S:D<8)(C:s.r p.B=0) :
  Tx sz (p.exp D) s fun E=>(∀z,¬(p.B+2≤z∧z≤p.B+4)→z≠D→E.r z=s.r z)∧Fp p.es s.m E.m∧vl (pl E.m p.es) (p.b.k+1)=vl (pl s.m p.b) p.b.k*2^(64 - p.over):=by
 have T:=w.B.1;have J:=w.b.1;have y:=w.b.2;have A:p.es.in_ sz:=Pz w rfl (by simp only[Pw.es];omega);have K:p.es.a+(p.b.k+1)≤sz p.es.b:=A.1;have f:=A.2;have H:Dj p.es p.b:=.inl w.bb.symm;have L:=w.ov;by_cases B:p.over=0
 ·have e:p.exp D=(E4 [Ij ((p.B+4:Nat):Int) (p.B:Nat)]).cat ((Gk (D:Nat) (p.b.k:Nat) (E4 [E7 ((p.B+3:Nat):Int) p.b.p (D:Nat) ((0:Nat):Int),Ff p.es.p (D:Nat) ((1:Nat):Int) ((p.B+3:Nat):Int)])).cat (E4 [Ff p.es.p (-1) ((0:Nat):Int) (p.B:Nat)])):=by
   unfold Pw.exp Pw.expB Pw.expE;rw[Ai B,Ai B];rfl
  rw[e];refine .op ud ?_;rw[Qm];refine .cat (R:=fun s1=>(∀z,¬(p.B+2≤z∧z≤p.B+4)→z≠D→s1.r z=s.r z)∧Fp p.es s.m s1.m∧∀i,i<p.b.k→pl s1.m p.es (i+1)=pl s.m p.b i) ?_ fun s1 ⟨g1,l,v1⟩=>?_
  ·refine .lp (fun j s1=>(∀z,¬(p.B+2≤z∧z≤p.B+4)→z≠D→s1.r z=s.r z)∧Fp p.es s.m s1.m∧∀i,i<j→pl s1.m p.es (i+1)=pl s.m p.b i) ⟨fun z o d=>by rw[Ez,Ab (by omega)],fun _ _ _=>rfl,fun _ h=>absurd h (by omega)⟩ (by omega) (fun j s1 M ⟨g1,l,v1⟩=>?_) fun _ h=>h
   have a:(UInt64.ofNat j).toNat=j:=Ro (by omega);have r:¬D=p.B+3:=by omega
   refine .op (Pk (by simp only[Ez,Bu,a];omega) y) (.op (W0 (by simp only[Ez,Ab r,Bu,a];omega) f) (.nil ⟨fun z o d=>?_,?_,fun i hi=>?_⟩))
   ·rw[Kd,Ez,Ab (by omega),Ez,Ab d,g1 z o d]
   ·refine l.trans (Oe (p:=p.es) (s:=(s1.put D (UInt64.ofNat j)).put _ _) ?_);simp only[Ez,Ab r,Bu,a,Pw.es];omega
   ·rw[I4];simp only[Ez,Gy,Ab r,Bu,a,Bd];split
    ·rename_i q;have:i=j:=by omega
     rw[this];exact l.pl H (by omega)
    ·exact v1 i (by omega)
  ·refine .op (jr (by omega) f) (.nil ⟨fun z o d=>by rw[Kd,g1 z o d],l.trans (Oe (by simp only[Pw.es];omega)),?_⟩);rw[xn,I4,Ai rfl,g1 p.B (by omega) (by omega),C,Np (g:=pl s.m p.b) fun i hi=>by
    rw[I4,Ab (by omega)];exact v1 i hi,B]
   simp;omega
 ·have e:p.exp D=(E4 [Ij ((p.B+4:Nat):Int) (p.B:Nat)]).cat ((Gk (D:Nat) (p.b.k:Nat) (E4 [E7 ((p.B+3:Nat):Int) p.b.p (D:Nat) ((0:Nat):Int),It 8 ((p.B+2:Nat):Int) ((p.B+3:Nat):Int) ((64 - p.over:Nat):Int),Ew 6 ((p.B+2:Nat):Int) ((p.B+2:Nat):Int) ((p.B+4:Nat):Int),Ff p.es.p (D:Nat) ((0:Nat):Int) ((p.B+2:Nat):Int),It 9 ((p.B+4:Nat):Int) ((p.B+3:Nat):Int) (p.over:Nat)])).cat (E4 [Ff p.es.p (-1) (p.b.k:Nat) ((p.B+4:Nat):Int)])):=by
   unfold Pw.exp Pw.expB Pw.expE;rw[Ab B,Ab B,show (64:Int) - (p.over:Int)=((64 - p.over:Nat):Int) by omega];rfl
  rw[e];refine .op ud ?_;rw[Qm];refine .cat (R:=fun s1=>(∀z,¬(p.B+2≤z∧z≤p.B+4)→z≠D→s1.r z=s.r z)∧Fp p.es s.m s1.m∧(s1.r (p.B+4)).toNat<2^(64 - p.over)∧vl (pl s1.m p.es) p.b.k+18446744073709551616^p.b.k*(s1.r (p.B+4)).toNat=2^(64 - p.over)*vl (pl s.m p.b) p.b.k) ?_ fun s1 ⟨g1,l,_,v1⟩=>?_
  ·refine .lp (fun j s1=>(∀z,¬(p.B+2≤z∧z≤p.B+4)→z≠D→s1.r z=s.r z)∧Fp p.es s.m s1.m∧(s1.r (p.B+4)).toNat<2^(64 - p.over)∧vl (pl s1.m p.es) j+18446744073709551616^j*(s1.r (p.B+4)).toNat=2^(64 - p.over)*vl (pl s.m p.b) j) ⟨fun z o d=>by rw[Ez,Ab (by omega)],fun _ _ _=>rfl,by rw[Ez,Ai rfl,C];exact Dz _,by rw[Ez,Ai rfl,C];simp[vl]⟩ (by omega) (fun j s1 M ⟨g1,l,N,v1⟩=>?_) fun _ h=>h
   have a:(UInt64.ofNat j).toNat=j:=Ro (by omega);have d2:¬D=p.B+2:=by omega
   have d3:¬D=p.B+3:=by omega
   have d4:¬D=p.B+4:=by omega
   have F:¬p.B+4=D:=by omega
   have I:=oj (x:=pl s.m p.b j) (m:=64 - p.over) (by omega) N;rw[show 64 - (64 - p.over)=p.over by omega] at I;refine .op (Pk (by simp only[Ez,Bu,a];omega) y) (.op (zqr (by omega)) (.op zw9 (.op (W0 ?_ f) (.op (zyv (by omega)) (.nil ⟨fun z o d=>?_,?_,?_,?_⟩)))))
   ·simp[Ez,d2,d3,d4,a];omega
   ·have O:¬z=p.B+2:=by omega
    have P:¬z=p.B+3:=by omega
    have Q:¬z=p.B+4:=by omega
    simp[Ez,Kd,O,P,Q,d];exact g1 z o d
   ·refine l.trans ?_;rw[Gy];refine zpl rfl ?_;simp[Ez,d2,d3,d4,a,Pw.es];omega
   ·rw[Ez,Ai rfl,zjn];refine Nat.div_lt_of_lt_mul (Nat.lt_of_lt_of_eq (UInt64.toNat_lt _) ?_);rw[←D4,show p.over+(64 - p.over)=64 by omega]
   ·have G:pl s1.m p.b j=pl s.m p.b j:=l.pl H (by omega);rw[Gy,I3,I3,I4];simp[Ez,Gy,Kd,d2,d3,d4,F,a,G,-UInt64.toNat_or,-UInt64.toNat_ofNat',-UInt64.ofNat_mul];rw[Np (g:=pl s1.m p.es) fun i hi=>by rw[I4,Ab (by omega)];rfl,zjn,Bh];exact Zj v1 I
  ·refine .op (jr (by omega) f) (.nil ⟨fun z o d=>by rw[Kd,g1 z o d],l.trans (Oe (by simp only[Pw.es];omega)),?_⟩);rw[I3,I4,Ai rfl,Np (g:=pl s1.m p.es) fun i hi=>by rw[I4,Ab (by omega)],Bz (vl (pl s.m p.b) p.b.k),←v1,Bz (18446744073709551616^p.b.k)]
def Wo (g:PwS sz p){D:Nat}(x:D<8)(h:s.r p.B=0)(q:(s.r (p.B+1)).toNat<9223372036854775808) :
  Tx sz (p.shift D) s fun a=>(∀z,¬(p.B+1≤z∧z≤p.B+4)→z≠D→a.r z=s.r z)∧Fp p.es s.m a.m∧∃Hf:Nat,Hf≤1∧(a.r (p.B+1)).toNat=2*(s.r (p.B+1)).toNat+Hf∧vl (pl a.m p.es) (p.b.k+1)+18446744073709551616^(p.b.k+1)*Hf=2*vl (pl s.m p.es) (p.b.k+1):=by
 have y:=g.B.1;have d:p.es.in_ sz:=Pz g rfl (by simp only[Pw.es];omega);have e:p.shift D=(E4 [Ij ((p.B+2:Nat):Int) (p.B:Nat)]).cat ((Qi p.es.p ((p.b.k+1:Nat):Int) ((p.B+3:Nat):Int) ((p.B+4:Nat):Int) ((p.B+2:Nat):Int) (D:Nat)).cat (E4 [It 8 ((p.B+1:Nat):Int) ((p.B+1:Nat):Int) ((1:Nat):Int),Ew 6 ((p.B+1:Nat):Int) ((p.B+1:Nat):Int) ((p.B+2:Nat):Int)])):=rfl;rw[e];refine .op ud ?_;rw[Qm];refine (kf (p:=p.es) (n:=p.b.k+1) (l:=p.B+3) (o:=p.B+4) (b:=p.B+2) (D:=D) d (by simp[Pw.es]) (by omega) (by rw[Ez,Ai rfl,h];decide)).cat fun s1 ⟨g1,j,m,v1⟩=>?_
 rw[Ez,Ai rfl,h,Gy] at v1;rw[Gy] at j;have f:s1.r (p.B+1)=s.r (p.B+1):=by rw[g1 _ (by omega) (by omega) (by omega) (by omega),Ez,Ab (by omega)]
 refine .op (zqr (by omega)) (.op zw9 (.nil ⟨fun z A r=>?_,j,(s1.r (p.B+2)).toNat,m,?_,?_⟩))
 ·rw[Ez,Ab (by omega),Ez,Ab (by omega),g1 z (by omega) (by omega) (by omega) r,Ez,Ab (by omega)]
 ·have w:¬p.B+2=p.B+1:=by omega
  simp only[Ez,Bu,Ab w,f];rw[Vi m];omega
 ·rw[Gy,Gy];simpa using v1
end pieces
end ex
end Go.Sv
namespace Go.Sv
set_option linter.unusedSimpArgs false
def zh2 {c:Cf}{x:Nat}(d:¬I5 c x)(j:¬(c.pa≤x∧x≤c.pb)):∀{f:Fr Lo} {lev:Int},0≤lev→f.AllH c lev→((x:Int)<lev∨c.hi<x)→f.noW x=true
 |.nil,_,_,_,_=>rfl
 |.op o r,lev,m,h,w=>by
  obtain⟨g,h⟩:=h;have l:=zh2 d j m h w;simp only[Fr.noW,Ac,Bs,Bl];rcases g.m with ⟨m1,a,_⟩|⟨_,m1,a,_⟩
  ·refine⟨fun q=>?_,fun q=>?_,l⟩
   ·rw[q] at m1;rcases m1 with m1|m1
    ·omega
    ·exact d m1
   ·rw[q] at a;rcases a with a|a
    ·omega
    ·exact d a
  ·exact⟨fun q=>j (by omega),fun q=>by omega,l⟩
 |.loop o b e r,lev,m,h,w=>by
  obtain⟨⟨g1,g2,_⟩,k,_,z,h⟩:=h;have l:=zh2 d j m h w;have y:=zh2 d j (lev:=lev+1) (by omega) z (by omega);simp only[Fr.noW,Ac,Bs,Bl];exact⟨by omega,y,l⟩
def cg {N:Nat}(a:N%2=1)(m:Nat):2^m*((N+1)/2)^m%N=1%N:=by
 rw[←Nat.mul_pow,show 2*((N+1)/2)=N+1 by omega,Nat.pow_mod,Nat.add_mod_left,←Nat.pow_mod,Nat.one_pow]
def zmt {P N inv x y:Nat}(hi:P*inv%N=1%N):(x*P%N)*(y*P%N)*inv%N=x*y*P%N:=by
 have a:((x*P%N)*(y*P%N))%N=(x*P*(y*P))%N:=(B1 _ _ _).symm;rw[B1,a,←B1,show x*P*(y*P)*inv=x*y*P*(P*inv) by grind,B1,hi,←B1,De]
def Vl {P N inv x:Nat}(hi:P*inv%N=1%N):(x*P%N)*1*inv%N=x%N:=by
 rw[De,B1,Nat.mod_mod,←B1,Dq,B1,hi,←B1,De]
def c9 {P N inv a:Nat}(hi:P*inv%N=1%N):a*(P*P%N)*inv%N=a*P%N:=by
 have d:(a*(P*P%N))%N=(a*(P*P))%N:=by rw[B1,Nat.mod_mod,←B1]
 rw[B1,d,←B1,show a*(P*P)*inv=a*P*(P*inv) by grind,B1,hi,←B1,De]
def zun (x y:UInt64):(Gx 0 (x ^^^ y) false).2=decide (x≠y):=by
 have h:=zo 0 (x ^^^ y) false;have f:=(Gx 0 (x ^^^ y) false).1.toNat_lt;by_cases e:x=y
 ·subst e;have d:x ^^^ x=0:=UInt64.xor_self;rw[d] at h f ⊢;generalize Gx 0 0 false=r at *;cases a:r.2
  ·simp
  ·rw[a] at h;simp at h;omega
 ·have d:(x ^^^ y).toNat≠0:=fun q=>by
   have:x ^^^ y=0:=Bn.1 q;exact e (UInt64.xor_eq_zero_iff.1 this)
  generalize Gx 0 (x ^^^ y) false=r at *;have g:(0:UInt64).toNat=0:=rfl;cases a:r.2
  ·rw[a,g] at h;simp only[Bool.toNat_false] at h;omega
  ·simp[e]
section ex
variable {sz : Nat → Nat} {s : Fs} {p : Pw}
def Wc (m:Nat→Nat→UInt64)(p:Pw)(e j:Nat):pl m p.tab (e*p.k+j)=pl m (p.en e) j:=by
 unfold pl Pw.tab Pw.en;dsimp only;rw[Cs (p.wa+4*p.k+p.b.k+3)]
def zf (f:PwS sz p){E:Nat}(O:E+1<8){d a b:Pn}(hd:d.in_ sz)(q:a.in_ sz)(r:b.in_ sz)(P:d.k=p.k)(S:a.k=p.k)(kb:b.k=p.k)(dn:ss d p.n)(C:Dj d p.t)(F:Dj p.t a)(G:Dj p.t b) :
  Tx sz (p.mont d a b E) s fun g=>(∀z,¬(p.B+10≤z∧z≤p.B+20)→z≠E→z≠E+1→g.r z=s.r z) ∧
   (pl s.m p.n 0%2=1→vl (pl s.m a) p.k<vl (pl s.m p.n) p.k→Fm [d,p.t] s.m g.m∧∀inv,18446744073709551616^p.k*inv%vl (pl s.m p.n) p.k=1%vl (pl s.m p.n) p.k→vl (pl g.m d) p.k=vl (pl s.m a) p.k*vl (pl s.m b) p.k*inv%vl (pl s.m p.n) p.k):=by
 obtain⟨k,hk⟩:∃k,p.k=k+1:=⟨p.k - 1,by have:=f.k;omega⟩;have T:=f.B;have l:p.t.in_ sz:=Pz f rfl (by have:=jw p;simp only[Pw.t];omega);have U:p.t.k=k+3:=by simp only[Pw.t];omega
 have H:Dj p.t p.n:=.inl f.nb.symm;have I:=f.nk;have e:p.mont d a b E=O2 d.p a.p b.p p.n.p p.t.p (k+1:Nat) ((p.B+10:Nat):Int) (E:Nat):=by unfold Pw.mont;rw[hk];rfl
 rw[e];by_cases m:pl s.m p.n 0%2=1∧vl (pl s.m a) p.k<vl (pl s.m p.n) p.k
 ·rw[hk] at m ⊢;refine (Y3 (k:=k) (by omega) hd q r f.n l (by omega) (by omega) (by omega) (by omega) (by omega) dn C F G H m.1 m.2).mono fun g ⟨g1,J,K,Q,V,v1⟩=>⟨fun z o w A=>g1 z (by omega) w A,fun _ _=>⟨fun x y B=>J x y (B d (by simp)) (B p.t (by simp)),fun inv hi=>?_⟩⟩
  exact Ty hi v1 K
 ·have L:=f.wk;have W:p.t.k≤65536:=by have:=l.1;have:=l.2;omega
  have j:(O2 d.p a.p b.p p.n.p p.t.p (k+1:Nat) ((p.B+10:Nat):Int) (E:Nat)).AllH ⟨d.b+a.b+b.b+p.n.b+p.wb+1,(p.B:Int)+10,11,E,E+1,8,7,fun _=>True,fun _=>True⟩ E :=
   zmv (by constructor<;>(dsimp only;omega)) ⟨by dsimp only;omega,trivial⟩ ⟨by dsimp only;omega,trivial⟩ ⟨by dsimp only;omega,trivial⟩ ⟨by dsimp only;omega,trivial⟩ ⟨by dsimp only[Pw.t];omega,trivial⟩ ⟨by dsimp only[Pw.t];omega,trivial⟩ (by omega) (by omega) (by constructor<;>(dsimp only;omega))
  obtain⟨g,o,_⟩:=zdw _ (fun _=>none) s (zzy (R:=p.B+10) (D:=E) (k:=k) (by omega) (by omega) hd q r f.n l (by omega) (by omega) (by omega) (by omega) (by omega) (by omega)) (fun _ _ _ h=>by cases h) (fun _ _ h=>by cases h);refine⟨g,o,fun z w A X=>zvx _ s g (zh2 ?_ ?_ (by omega) j ?_) o,fun M N=>absurd ⟨M,N⟩ m⟩
  ·unfold I5;dsimp only;omega
  ·dsimp only;omega
  ·dsimp only;omega
def Wd (C:PwS sz p){E e:Nat}(X:E<8)(he:e<2^p.w)(g:(s.r 12).toNat=e*p.k) :
  Tx sz ((Gk (E:Nat) (p.k:Nat) (E4 [E7 (p.B+3) p.acc.p (E:Nat) 0,Ew 3 13 12 (E:Nat),Ff p.tab.p 13 0 (p.B+3)])).cat (E4 [cK 13 (iU p.k),Ew 3 12 12 13])) s fun r =>
   (∀z,z≠p.B+3→z≠12→z≠13→z≠E→r.r z=s.r z)∧Fp (p.en e) s.m r.m∧(r.r 12).toNat=(e+1)*p.k∧∀j,j<p.k→pl r.m (p.en e) j=pl s.m p.acc j:=by
 have Y:=C.B;have hle:=pk he;have l:p.acc.in_ sz:=Pz C rfl (by have:=jw p;simp only[Pw.acc];omega);have m:p.tab.in_ sz:=Pz C rfl (by simp only[Pw.tab];omega);have L:p.acc.a+p.k≤sz p.acc.b:=l.1;have M:p.tab.a+p.k*2^p.w≤sz p.tab.b:=m.1;have D:=l.2;have F:=m.2;have N:Dj (p.en e) p.acc:=.inr (.inr (by simp only[Pw.en,Pw.acc];omega));have O:(Gk (E:Nat) (p.k:Nat) (E4 [E7 (p.B+3) p.acc.p (E:Nat) 0,Ew 3 13 12 (E:Nat),Ff p.tab.p 13 0 (p.B+3)]))=Gk (E:Nat) (p.k:Nat) (E4 [E7 ((p.B+3:Nat):Int) p.acc.p (E:Nat) ((0:Nat):Int),Ew 3 ((13:Nat):Int) ((12:Nat):Int) (E:Nat),Ff p.tab.p ((13:Nat):Int) ((0:Nat):Int) ((p.B+3:Nat):Int)]):=rfl;rw[O];refine .cat (R:=fun s1=>(∀z,z≠p.B+3→z≠13→z≠E→s1.r z=s.r z)∧Fp (p.en e) s.m s1.m∧∀i,i<p.k→pl s1.m (p.en e) i=pl s.m p.acc i) ?_ fun s1 ⟨g1,w,v1⟩=>?_
 ·refine .lp (fun j s1=>(∀z,z≠p.B+3→z≠13→z≠E→s1.r z=s.r z)∧Fp (p.en e) s.m s1.m∧∀i,i<j→pl s1.m (p.en e) i=pl s.m p.acc i) ⟨fun _ _ _ _=>rfl,fun _ _ _=>rfl,fun _ h=>absurd h (by omega)⟩ (by omega) (fun j s1 P ⟨g1,w,v1⟩=>?_) fun _ h=>h
  have f:(UInt64.ofNat j).toNat=j:=Ro (by omega);have G:¬E=p.B+3:=by omega
  have H:¬12=p.B+3:=by omega
  have I:¬12=E:=by omega
  have Q:¬p.B+3=13:=by omega
  have Z:¬E=13:=by omega
  have a:s1.r 12=s.r 12:=g1 12 (by omega) (by omega) (by omega);have d:(s.r 12+UInt64.ofNat j).toNat=e*p.k+j:=by
   rw[Bt,g,f,Be (by omega)]
  have J:pl s1.m p.acc j=pl s.m p.acc j:=w.pl N P;refine .op (Pk (by simp only[Ez,Bu,f];omega) D) (.op sh (.op (W0 (by simp only[Ez,Bu,Ab G,Ab H,Ab I,a,d];omega) F) (.nil ⟨fun z A B o=>?_,?_,fun i hi=>?_⟩)))
  ·rw[Kd,Ez,Ab B,Ez,Ab A,Ez,Ab o,g1 z A B o]
  ·refine w.trans fun x y S=>?_
   simp only[Ez,Gy,Bu,Ab G,Ab H,Ab I,a,d,Qy,Bd];rw[Ab];rintro⟨T,K⟩;exact S ⟨by rw[T];rfl,by rw[K];simp only[Pw.en,Pw.tab];omega,by rw[K];simp only[Pw.en,Pw.tab];omega⟩
  ·rw[←Wc,I4];simp only[Ez,Gy,Bu,Ab G,Ab H,Ab I,Ab Q,a,d,f,Bd];split
   ·rename_i q;have:i=j:=by omega
    rw[this];exact J
   ·rw[Wc];exact v1 i (by omega)
 ·have U:iU (p.k:Int)=UInt64.ofNat p.k:=by
   apply Bn.1;rw[O9 (by omega),Ro (by omega)]
  have V:[cK 13 (iU p.k),Ew 3 12 12 13]=[cK ((13:Nat):Int) (iU p.k),Ew 3 ((12:Nat):Int) ((12:Nat):Int) ((13:Nat):Int)]:=rfl;rw[V];refine .op N0 (.op sh (.nil ⟨fun z A B o W=>?_,w,?_,v1⟩))
  ·rw[Ez,Ab B,Ez,Ab o,g1 z A o W]
  ·have a:s1.r 12=s.r 12:=g1 12 (by omega) (by omega) (by omega);simp only[Ez,Bu,show ¬(12:Nat)=13 by omega,Dp];rw[a,Bt,g,O9 (by omega),Bb,Cm,Be (by omega)]
def bj (N:PwS sz p){D:Nat}(hD:D+1<8)(hz:s.r p.B=0) :
  Tx sz (p.scan D) s fun T=>(∀z,¬(p.B+3≤z∧z≤p.B+6)→z≠12→z≠13→z≠D→z≠D+1→T.r z=s.r z)∧Fp p.cur s.m T.m ∧
   ((s.r (p.B+1)).toNat<2^p.w→∀j,j<p.k→pl T.m p.cur j=pl s.m (p.en (s.r (p.B+1)).toNat) j):=by
 have hB:=N.B;have aa:=S5 N.w.2;have I:p.cur.in_ sz:=Pz N rfl (by have:=jw p;simp only[Pw.cur];omega);have J:p.tab.in_ sz:=Pz N rfl (by simp only[Pw.tab];omega);have ad:p.cur.a+p.k≤sz p.cur.b:=I.1;have af:p.tab.a+p.k*2^p.w≤sz p.tab.b:=J.1;have K:=I.2;have U:=J.2;have ag:=jw p;obtain⟨g,E⟩:∃g,(s.r (p.B+1)).toNat=g:=⟨_,rfl⟩;have e:p.scan D=(E4 [cK ((12:Nat):Int) 0]).cat (Gk (D:Nat) (2^p.w:Nat) ((E4 [Ew 7 ((p.B+5:Nat):Int) ((p.B+1:Nat):Int) (D:Nat),Fj 12 ((p.B+4:Nat):Int) ((p.B+5:Nat):Int) (p.B:Nat) ((p.B+5:Nat):Int) (p.B:Nat)]).cat ((Gk ((D+1:Nat):Int) (p.k:Nat) (E4 [Ew 3 ((13:Nat):Int) ((12:Nat):Int) ((D+1:Nat):Int),E7 ((p.B+3:Nat):Int) p.tab.p ((13:Nat):Int) ((0:Nat):Int),E7 ((p.B+6:Nat):Int) p.cur.p ((D+1:Nat):Int) ((0:Nat):Int),Fx ((p.B+3:Nat):Int) ((p.B+5:Nat):Int) ((p.B+6:Nat):Int) ((p.B+3:Nat):Int),Ff p.cur.p ((D+1:Nat):Int) ((0:Nat):Int) ((p.B+3:Nat):Int)])).cat (E4 [cK ((13:Nat):Int) (iU p.k),Ew 3 ((12:Nat):Int) ((12:Nat):Int) ((13:Nat):Int)])))):=rfl;rw[e,E];refine .op N0 ?_;rw[Qm];refine .lp (fun f s1=>(∀z,¬(p.B+3≤z∧z≤p.B+6)→z≠12→z≠13→z≠D→z≠D+1→s1.r z=s.r z)∧Fp p.cur s.m s1.m∧(s1.r 12).toNat=f*p.k∧(g<f→∀j,j<p.k→pl s1.m p.cur j=pl s.m (p.en g) j)) ⟨fun z _ w _ _ _=>by rw[Ez,Ab w],fun _ _ _=>rfl,by rw[Ez,Ai rfl];simp,fun h=>absurd h (by omega)⟩ (by omega) (fun f s1 hf ⟨g1,o1,X,v1⟩=>?_) fun s1 ⟨a,b,_,d⟩=>⟨a,b,d⟩
 have hle:=pk (p:=p) hf;have L:(UInt64.ofNat f).toNat=f:=Ro (by omega);have dj:Dj p.cur (p.en f):=.inr (.inl (by simp only[Pw.en,Pw.cur];omega));refine .op zx9 (.op zg ?_);rw[Qm];have b0:¬p.B=p.B+5:=by omega
 have b1:¬p.B=D:=by omega
 have b2:¬p.B+1=D:=by omega
 have b3:¬p.B+5=p.B+4:=by omega
 have z1:s1.r p.B=0:=by rw[g1 p.B (by omega) (by omega) (by omega) (by omega) (by omega),hz]
 have d1:s1.r (p.B+1)=s.r (p.B+1):=g1 _ (by omega) (by omega) (by omega) (by omega) (by omega);obtain⟨s2,m⟩:∃s2,s2=((((s1.put D (UInt64.ofNat f)).put (p.B+5) ((s1.put D (UInt64.ofNat f)).r (p.B+1) ^^^ (s1.put D (UInt64.ofNat f)).r D)).put (p.B+4) (Gx (((s1.put D (UInt64.ofNat f)).put (p.B+5) ((s1.put D (UInt64.ofNat f)).r (p.B+1) ^^^ (s1.put D (UInt64.ofNat f)).r D)).r p.B) (((s1.put D (UInt64.ofNat f)).put (p.B+5) ((s1.put D (UInt64.ofNat f)).r (p.B+1) ^^^ (s1.put D (UInt64.ofNat f)).r D)).r (p.B+5)) (decide (((s1.put D (UInt64.ofNat f)).put (p.B+5) ((s1.put D (UInt64.ofNat f)).r (p.B+1) ^^^ (s1.put D (UInt64.ofNat f)).r D)).r p.B%2=1))).1).put (p.B+5) (F2 (Gx (((s1.put D (UInt64.ofNat f)).put (p.B+5) ((s1.put D (UInt64.ofNat f)).r (p.B+1) ^^^ (s1.put D (UInt64.ofNat f)).r D)).r p.B) (((s1.put D (UInt64.ofNat f)).put (p.B+5) ((s1.put D (UInt64.ofNat f)).r (p.B+1) ^^^ (s1.put D (UInt64.ofNat f)).r D)).r (p.B+5)) (decide (((s1.put D (UInt64.ofNat f)).put (p.B+5) ((s1.put D (UInt64.ofNat f)).r (p.B+1) ^^^ (s1.put D (UInt64.ofNat f)).r D)).r p.B%2=1))).2)):=⟨_,rfl⟩;rw[←m];have Y:s2.m=s1.m:=by rw[m];rfl
 have g2:∀z,z≠p.B+4→z≠p.B+5→z≠D→s2.r z=s1.r z:=fun z H w B=>by rw[m];simp only[Ez,Ab H,Ab w,Ab B]
 have u2:s2.r (p.B+5)=F2 (decide (g≠f)):=by
  rw[m];simp only[Ez,Bu,Ab b0,Ab b1,Ab b2,z1,d1];rw[show decide ((0:UInt64)%2=1)=false by decide,zun]
  congr 1
  refine decide_eq_decide.2 (not_congr ⟨fun q=>?_,fun q=>?_⟩)
  ·rw[←E,q,L]
  ·exact Bn.1 (by rw[E,L,q])
 clear m;refine .cat (R:=fun l=>(∀z,¬(p.B+3≤z∧z≤p.B+6)→z≠13→z≠D+1→l.r z=s2.r z)∧Fp p.cur s.m l.m∧∀i,i<p.k→pl l.m p.cur i=if g=f then pl s.m (p.en g) i else pl s1.m p.cur i) ?_ fun l ⟨g3,O,P⟩=>?_
 ·refine .lp (fun j l=>(∀z,¬(p.B+3≤z∧z≤p.B+6)→z≠13→z≠D+1→l.r z=s2.r z)∧l.r (p.B+5)=s2.r (p.B+5)∧Fp p.cur s.m l.m∧∀i,i<p.k→pl l.m p.cur i=if g=f∧i<j then pl s.m (p.en g) i else pl s1.m p.cur i) ⟨fun _ _ _ _=>rfl,rfl,fun x y hn=>by rw[Y,o1 x y hn],fun i _=>by rw[Y,Ab (by omega)]⟩ (by omega) (fun j l M ⟨g3,Z,O,P⟩=>?_) fun l ⟨a,_,b,d⟩=>⟨a,b,fun i hi=>by rw[d i hi];by_cases q:g=f<;>simp[q,hi]⟩
  have o:(UInt64.ofNat j).toNat=j:=Ro (by omega);have n1:¬12=D+1:=by omega
  have Q:¬D+1=13:=by omega
  have n3:¬13=p.B+3:=by omega
  have S:¬D+1=p.B+3:=by omega
  have V:¬D+1=p.B+6:=by omega
  have n6:¬p.B+5=p.B+6:=by omega
  have n7:¬p.B+5=p.B+3:=by omega
  have n8:¬p.B+5=13:=by omega
  have n9:¬p.B+5=D+1:=by omega
  have W:¬p.B+3=p.B+6:=by omega
  have A:l.r 12=s1.r 12:=by rw[g3 12 (by omega) (by omega) (by omega),g2 12 (by omega) (by omega) (by omega)]
  have C:(s1.r 12+UInt64.ofNat j).toNat=f*p.k+j:=by
   rw[Bt,X,o,Be (by omega)]
  refine .op sh (.op (Pk (by simp only[Ez,Bu,Ab n1,A,C];omega) U) (.op (Pk (by simp only[Ez,Bu,Ab Q,Ab S,o];omega) K) (.op zm5 (.op (W0 (by simp only[Ez,Bu,Ab Q,Ab S,Ab V,o];omega) K) (.nil ⟨fun z H w B=>?_,?_,?_,fun i hi=>?_⟩)))))
  ·rw[Kd,Ez,Ab (by omega),Ez,Ab (by omega),Ez,Ab (by omega),Ez,Ab w,Ez,Ab B,g3 z H w B]
  ·simp only[Kd,Ez,Ab n6,Ab n7,Ab n8,Ab n9];exact Z
  ·refine O.trans (zpl rfl ?_);simp only[Ez,Bu,Ab Q,Ab S,Ab V,o,Pw.cur];omega
  ·rw[I4];simp only[Ez,Gy,Bu,Ab n1,Ab Q,Ab S,Ab V,Ab n6,Ab n7,Ab n8,Ab n9,Ab W,A,C,o,Bd,Z,u2];by_cases q:i=j
   ·rw[Ai q,q];have hb:=W6 (decide (g≠f));by_cases F:g=f
    ·have G:¬F2 (decide (g≠f))%2=1:=by simp[F,F2]
     rw[Ab G,Ai ⟨F,by omega⟩,Wc,O.pl dj M,F]
    ·have G:F2 (decide (g≠f))%2=1:=by simp[F,F2]
     rw[Ai G,Ab (by omega),P j M,Ab (by omega)]
   ·rw[Ab q,P i hi];by_cases F:g=f∧i<j
    ·rw[Ai F,Ai (by omega)]
    ·rw[Ab F,Ab (by omega)]
 ·refine .op N0 (.op sh (.nil ⟨fun z H w B h4 h5=>?_,O,?_,fun ah j M=>?_⟩))
  ·rw[Ez,Ab w,Ez,Ab B,g3 z H B h5,g2 z (by omega) (by omega) h4,g1 z H w B h4 h5]
  ·have A:l.r 12=s1.r 12:=by rw[g3 12 (by omega) (by omega) (by omega),g2 12 (by omega) (by omega) (by omega)]
   simp only[Ez,Bu,show ¬(12:Nat)=13 by omega,Dp];rw[A,Bt,X,O9 (by omega),Bb,Cm,Be (by omega)]
  ·rw[Gy,Gy,P j M];split
   ·rfl
   ·exact v1 (by omega) j M
end ex
end Go.Sv
