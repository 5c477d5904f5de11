/- Texts of the evaluator, of the logic over it, of plain arithmetic. -/
import Derived.Test.YtmnciecehjcjhaaGreatSvG2
set_option linter.unusedSimpArgs false
set_option linter.defProp false
namespace Go.Sv
variable{g j A M Z vI uY:Nat}{z B:Int}{K:Bool}{U vB:UInt64}{vU:List Int}{vT:Type}{vA:List Nat}
noncomputable section
structure Bf where
 size:Int
 kind:Int
 sec:Bool
structure Lo where
 kind:Int
 d:Int
 e:Int
 a:Int
 b:Int
 c:Int
 buf:Int
 imm:UInt64
 deriving DecidableEq
def Bf.f(v:Bf):List LV:=[.i v.size,.i v.kind,.bool v.sec]
def Lo.f(o:Lo):List LV:=[.i o.kind,.i o.d,.i o.e,.i o.a,.i o.b,.i o.c,.i o.buf,.u o.imm]
def Qs(l:List Bf):List LV:=l.flatMap Bf.f
def Se(l:List Lo):List LV:=l.flatMap Lo.f
def Bf.f_len(v:Bf):v.f.length=3:=rfl
def Lo.f_len(o:Lo):o.f.length=8:=rfl
def zbp(l:List Lo):(Se l).length=l.length*8:=zph Lo.f_len l
def Uy(l:List Bf):dats (Qs l)=true:=uv (λ_=>rfl) l
def Uk(l:List Lo):dats (Se l)=true:=uv (λ_=>rfl) l
def zqs{l:List Bf}{i:Nat}{v:Bf}(h:l[i]?=some v):((Qs l).drop (i*3)).take 3=v.f:=zbj Bf.f_len h
def zak{l:List Lo}{i:Nat}{v:Lo}(h:l[i]?=some v):((Se l).drop (i*8)).take 8=v.f:=zbj Lo.f_len h
def uu{l:List Bf}{i:Nat}{v:Bf}(h:l[i]?=some v):(Qs l)[i*3]?=some (.i v.size):=by have:=zr Bf.f_len h (j:=0) J;simpa [Qs,Bf.f] using this
def zib{l:List Bf}{i:Nat}{v:Bf}(h:l[i]?=some v):(Qs l)[i*3+1]?=some (.i v.kind):=by have:=zr Bf.f_len h (j:=1) J;simpa [Qs,Bf.f] using this
def zqf{l:List Bf}{i:Nat}{v:Bf}(h:l[i]?=some v):(Qs l)[i*3+2]?=some (.bool v.sec):=by have:=zr Bf.f_len h (j:=2) J;simpa [Qs,Bf.f] using this
def t8{l:List Lo}{i:Nat}{v:Lo}(h:l[i]?=some v){j:Nat}(g:j<8):(Se l)[i*8+j]?=v.f[j]?:=zr Lo.f_len h g
def sx{l:List Bf}{i:Nat}(h:i<l.length):i*3+3≤(Qs l).length:=zsh Bf.f_len h
def xd{l:List Lo}{i:Nat}(h:i<l.length):i*8+8≤(Se l).length:=zsh Lo.f_len h
def ns(a b:List Lo):Se (a++b)=Se a++Se b:=by simp[Se]
def sc(a b:List Bf):Qs (a++b)=Qs a++Qs b:=by simp[Qs]
def Oy(l:List Bf)(n:Nat):Bf:=l.getD n ⟨0,0,false⟩
def dh(l:List Lo)(n:Nat):Lo:=l.getD n ⟨0,0,0,0,0,0,0,0⟩
def S8{l:List Bf}{n:Nat}(h:n<l.length):l[n]?=some (Oy l n):=by simp[Oy,J0,h]
def zgf{l:List Lo}{n:Nat}(h:n<l.length):l[n]?=some (dh l n):=by simp[dh,J0,h]
def zem{l:List Lo}{n:Nat}(h:n<l.length):l.drop n=dh l n::l.drop (n+1):=by
 rw[Lh h];congr 1;have:=zgf h;rw[J5 h]at this;exact Option.some.inj this
def wo(n:Nat):Qo [.bool false] n=(List.replicate n false).map LV.bool:=by
 induction n with
 |zero=>rfl
 |succ n g=>rw[Qo,g,Mt];rfl
def P3(o:Lo):List Int :=
 if o.kind=2∨o.kind=8∨o.kind=9 then [o.a]
 else if (3≤o.kind∧o.kind≤7)∨o.kind=10 then [o.a,o.b]
 else if o.kind=11∨o.kind=12∨o.kind=13 then [o.a,o.b,o.c]
 else if o.kind=14∧¬o.a=-1 then [o.a]
 else if o.kind=15∧¬o.a=-1 then [o.a,o.b]
 else if o.kind=15 then [o.b] else []
def O7(o:Lo):List Int :=
 if o.kind=10∨o.kind=11∨o.kind=12 then [o.d,o.e]
 else if o.kind=15∨o.kind=17 then [] else [o.d]
def Sa(g r:Int)(j:Bool):Bool:=if j=true then decide (0≤r)&&decide (r<g) else decide (r=-1)
def R4(k:Int):Bool:=!decide (k=15) && !decide (k=17)
def R2(k:Int):Bool:=decide (k=10) || (decide (k=11) || decide (k=12))
def Sm(k:Int):Bool:=!decide (k=1)&&(!decide (k=16) && !decide (k=17))
def Xj(k:Int):Bool:=(decide (3≤k)&&decide (k≤7)) || ((decide (10≤k)&&decide (k≤13)) || decide (k=15))
def Xf(k:Int):Bool:=decide (11≤k)&&decide (k≤13)
def Qd(k:Int):Bool:=decide (k=14) || decide (k=15)
def Rj(g:Int)(j:List Bf)(o:Lo):Bool :=
 (decide (1≤o.kind)&&decide (o.kind≤17))&&(Sa g o.d (R4 o.kind)&&(Sa g o.e (R2 o.kind)&&((Sa g o.a (Sm o.kind) || (Qd o.kind&&decide (o.a=-1)))&&(Sa g o.b (Xj o.kind)&&(Sa g o.c (Xf o.kind)&&(!(R2 o.kind&&decide (o.d=o.e)) &&
  (if Qd o.kind=true then decide (0≤o.buf)&&(decide (o.buf<j.length)&&(!(decide (o.kind=15)&&decide ((Oy j o.buf.toNat).kind=1))&&(!decide (o.a=-1) || decide (o.imm<iU (Oy j o.buf.toNat).size))))
   else decide (o.buf=0)&&(if o.kind=1 then true else if o.kind=8∨o.kind=9 then decide (1≤o.imm)&&decide (o.imm≤63) else if o.kind=16 then decide (1≤o.imm)&&decide (o.imm≤1048576) else decide (o.imm=0)))))))))
def P9(m:List Bool)(r:Int):Bool:=m.getD r.toNat false
def Vn(j:Int)(z:List Bf)(m:List Bool)(g:List Int)(o:Lo):Int×List Bool×List Int :=
 if Rj j z o=false then (2,m,g)
 else if o.kind=17 then (match g.getLast? with|none=>(9,m,g)|some d=>(0,m.set d.toNat false,g.dropLast))
 else if (O7 o).any (λr=>g.contains r)=true then (9,m,g)
 else if o.kind=16∧P9 m o.d=true then (9,m,g)
 else if o.kind=16∧g.length=8 then (10,m,g)
 else if (P3 o).any (λr=>!P9 m r)=true then (5,m,g)
 else (0,(O7 o).foldl (λm r=>m.set r.toNat true) m,if o.kind=16 then g++[o.d] else g)
def Yy(g:Int)(z:List Bf):Nat→List Bool→List Int→List Lo→Int×Int
 |i,_,j,[]=>if j=[] then (i,0) else (i,9)
 |i,m,j,o::l=>if (Vn g z m j o).1=0 then Yy g z (i+1) (Vn g z m j o).2.1 (Vn g z m j o).2.2 l else (i,(Vn g z m j o).1)
def R8(g:Int)(bs:List Bf)(os:List Lo):Int×Int :=
 if 64<g∨32<bs.length∨65536<os.length then (0,3)
 else if (bs.any λb=>decide (65536<b.size))=true then (0,3)
 else if g<0 then (0,2)
 else if (bs.any λb=>decide (b.size<1) || (decide (b.kind<1) || decide (3<b.kind)))=true then (0,2)
 else Yy g bs 0 (List.replicate g.toNat false) [] os
structure Ms where
 i:Nat
 first:Bool
 r:List UInt64
 bufs:List (List UInt64)
 l:List (Int×Int)
def atR(r:List UInt64)(x:Int):UInt64:=if x<0 then 0 else r.getD x.toNat 0
def Qh(b:Bool):UInt64:=if b then 1 else 0
def Ot(r:List UInt64)(x:Int)(v:UInt64):List UInt64:=if 0≤x then r.set x.toNat v else r
def Pf(o:Lo)(a b:UInt64)(c:Bool):UInt64×UInt64 :=
 if o.kind=1 then (o.imm,0) else if o.kind=2 then (a,0) else if o.kind=3 then (a+b,0) else if o.kind=4 then (a-b,0)
 else if o.kind=5 then (a &&& b,0) else if o.kind=6 then (a ||| b,0) else if o.kind=7 then (a ^^^ b,0)
 else if o.kind=8 then (UInt64.ofNat (a.toNat*2^o.imm.toNat),0) else if o.kind=9 then (UInt64.ofNat (a.toNat/2^o.imm.toNat),0)
 else if o.kind=10 then (Uf a b,a*b) else if o.kind=11 then ((Ow a b c).1,Qh (Ow a b c).2) else if o.kind=12 then ((Rc a b c).1,Qh (Rc a b c).2)
 else if o.kind=13 then (if c then a else b,0) else (0,0)
def Uu(g:List (List UInt64))(x:Int):List UInt64:=g.getD x.toNat []
def Vi(o:Lo)(s:Ms):Option Ms :=
 if o.kind=14 then
  (if (o.imm+atR s.r o.a).toNat<(Uu s.bufs o.buf).length then
   some ⟨s.i+1,s.first,Ot (Ot s.r o.d ((Uu s.bufs o.buf).getD (o.imm+atR s.r o.a).toNat 0)) o.e 0,s.bufs,s.l++[((s.i:Int),(((o.imm+atR s.r o.a).toNat:Nat):Int))]⟩ else none)
 else if o.kind=15 then
  (if (o.imm+atR s.r o.a).toNat<(Uu s.bufs o.buf).length then
   some ⟨s.i+1,s.first,Ot (Ot s.r o.d 0) o.e 0,s.bufs.set o.buf.toNat ((Uu s.bufs o.buf).set (o.imm+atR s.r o.a).toNat (atR s.r o.b)),s.l++[((s.i:Int),(((o.imm+atR s.r o.a).toNat:Nat):Int))]⟩ else none)
 else some ⟨s.i+1,s.first,Ot (Ot s.r o.d (Pf o (atR s.r o.a) (atR s.r o.b) (decide (atR s.r o.c%2=1))).1) o.e (Pf o (atR s.r o.a) (atR s.r o.b) (decide (atR s.r o.c%2=1))).2,s.bufs,s.l++[((s.i:Int),(-1:Int))]⟩
def Si(os:List Lo)(es:List Int)(s:Ms):Option Ms :=
 match os[s.i]? with
 |none=>some s
 |some o =>
  if o.kind=16 then some ⟨s.i+1,true,if s.first then Ot s.r o.d 0 else s.r,s.bufs,s.l++[((s.i:Int),(-1:Int))]⟩
  else if o.kind=17 then
   (match os[(es.getD s.i 0).toNat]? with
   |none=>none
   |some p=>if atR s.r p.d+1<p.imm then some ⟨(es.getD s.i 0).toNat,false,Ot s.r p.d (atR s.r p.d+1),s.bufs,s.l⟩ else some ⟨s.i+1,s.first,s.r,s.bufs,s.l⟩)
  else Vi o s
def Qk(os:List Lo)(es:List Int):Nat→Ms→Option Ms
 |0,s=>some s
 |n+1,s=>match Si os es s with
  |none=>none
  |some g=>Qk os es n g
end
variable{T:List Bf}{vK:List Lo}
section
def Rt(o:Lo):Nat:=if o.kind=16 then 1 else if o.kind=17 then 2 else 0
structure Fs where
 r:Nat→UInt64
 m:Nat→Nat→UInt64
def Fs.put(s:Fs)(d:Nat)(v:UInt64):Fs:=⟨λx=>if x=d then v else s.r x,s.m⟩
def Fs.sto(s:Fs)(b n:Nat)(v:UInt64):Fs:=⟨s.r,λx y=>if x=b∧y=n then v else s.m x y⟩
def Us(s:Fs)(x:Int):UInt64:=if x<0 then 0 else s.r x.toNat
def Ss(s:Fs)(x:Int)(v:UInt64):Fs:=if 0≤x then s.put x.toNat v else s
def S9(sz:Nat→Nat)(o:Lo)(s:Fs):Option Fs :=
 if o.kind=14 then (if (o.imm+Us s o.a).toNat<sz o.buf.toNat then some (Ss (Ss s o.d (s.m o.buf.toNat (o.imm+Us s o.a).toNat)) o.e 0) else none)
 else if o.kind=15 then (if (o.imm+Us s o.a).toNat<sz o.buf.toNat then some (Ss (Ss (s.sto o.buf.toNat (o.imm+Us s o.a).toNat (Us s o.b)) o.d 0) o.e 0) else none)
 else some (Ss (Ss s o.d (Pf o (Us s o.a) (Us s o.b) (decide (Us s o.c%2=1))).1) o.e (Pf o (Us s o.a) (Us s o.b) (decide (Us s o.c%2=1))).2)
def ly(f:Fs→Option Fs)(d:Nat):Nat→Nat→Fs→Option Fs
 |0,_,s=>some s
 |n+1,j,s=>match f (s.put d (UInt64.ofNat j)) with
  |none=>none
  |some g=>ly f d n (j+1) g
def Ve(sz:Nat→Nat):Fr Lo→Fs→Option Fs
 |.nil,s=>some s
 |.op o r,s=>match S9 sz o s with
  |none=>none
  |some g=>Ve sz r g
 |.loop o b _ r,s=>match ly (Ve sz b) o.d.toNat o.imm.toNat 0 s with
  |none=>none
  |some g=>Ve sz r g
def Fr.noW(x:Nat):Fr Lo→Bool
 |.nil=>true
 |.op o r=>!decide (o.d=x)&&(!decide (o.e=x)&&r.noW x)
 |.loop o b _ r=>!decide (o.d.toNat=x)&&(b.noW x&&r.noW x)
def zif{s:Fs}{d:Int}{v:UInt64}{x:Nat}(h:¬d=x):(Ss s d v).r x=s.r x:=by
 unfold Ss;split
 ·show (if x=d.toNat then v else s.r x)=s.r x;rw[J2 J]
 ·rfl
def opZ_r{sz:Nat→Nat}{o:Lo}{s z:Fs}{x:Nat}(h:S9 sz o s=some z)(g:¬o.d=x)(j:¬o.e=x):z.r x=s.r x:=by
 unfold S9 at h;split at h
 ·split at h
  ·cases h;rw[zif j,zif g]
  ·cases h
 ·split at h
  ·split at h
   ·cases h;rw[zif j,zif g];rfl
   ·cases h
  ·cases h;rw[zif j,zif g]
def zqv{f:Fs→Option Fs}{P:Fs→Prop}{d:Nat}(hd:∀s v,P s→P (s.put d v))(z:∀s g,P s→f s=some g→P g):∀(n A:Nat) (s g:Fs),P s→ly f d n A s=some g→P g
 |0,_,s,g,j,h=>by cases h;exact j
 |n+1,A,s,g,j,h=>by
  unfold ly at h;split at h
  ·cases h
  ·rename_i B C;exact zqv hd z n (A+1) B g (z _ _ (hd _ _ j) C) h
def Yb{sz:Nat→Nat}{x:Nat}:∀(f:Fr Lo) (s g:Fs),f.noW x=true→Ve sz f s=some g→g.r x=s.r x
 |.nil,s,g,_,h=>Cb
 |.op o r,s,g,hw,h=>by
  simp only[Fr.noW,Jz,L9,Le]at hw;unfold Ve at h;split at h
  ·cases h
  ·rename_i j z;rw[Yb r j g hw.2.2 h,opZ_r z hw.1 hw.2.1]
 |.loop o b e r,s,g,hw,h=>by
  simp only[Fr.noW,Jz,L9,Le]at hw;unfold Ve at h;split at h
  ·cases h
  ·rename_i j z;rw[Yb r j g hw.2.2 h];refine zqv (P:=λt=>t.r x=s.r x) (λt v A=>?_) (λt B A h=>by rw[Yb b t B hw.2.1 h,A]) _ _ _ _ rfl z;show (if x=o.d.toNat then v else t.r x)=_;rw[J2 (λq=>hw.1 q.symm)];exact A
def ky(ls:List Nat)(x:Int):Bool:=decide (-1≤x)&&(decide (x<64) && !ls.contains x.toNat || decide (x=-1))
def Fr.regs(nb:Nat):List Nat→Fr Lo→Bool
 |_,.nil=>true
 |ls,.op o r=>ky ls o.d&&(ky ls o.e&&(decide (o.a<64)&&(decide (o.b<64)&&(decide (o.c<64)&&(decide (o.buf.toNat<nb)&&r.regs nb ls)))))
 |ls,.loop o b _ r=>ky ls o.d&&(decide (0≤o.d)&&(decide (1≤o.imm.toNat)&&(b.regs nb (o.d.toNat::ls)&&r.regs nb ls)))
def zeu{nb x:Nat}:∀(f:Fr Lo) (z:List Nat),x∈z→f.regs nb z=true→f.noW x=true
 |.nil,_,_,_=>rfl
 |.op o r,z,j,h=>by
  simp only[Fr.regs,Jz,ky,Kb,K8,L9,List.contains_eq_mem,Le]at h;obtain⟨⟨C,g⟩,⟨D,A⟩,_,_,_,_,B⟩:=h;simp only[Fr.noW,Jz,L9,Le];refine⟨λq=>?_,λq=>?_,zeu r z j B⟩
  ·rcases g with ⟨_,g⟩|g
   ·apply g;rw[q];exact j
   ·omega
  ·rcases A with ⟨_,A⟩|A
   ·apply A;rw[q];exact j
   ·omega
 |.loop o b e r,z,j,h=>by
  simp only[Fr.regs,Jz,ky,Kb,K8,L9,List.contains_eq_mem,Le]at h;obtain⟨⟨C,g⟩,D,_,A,B⟩:=h;simp only[Fr.noW,Jz,L9,Le];refine⟨λq=>?_,zeu b _ (Kl _ j) A,zeu r z j B⟩;rcases g with ⟨_,g⟩|g
  ·apply g;rw[q];exact j
  ·omega
structure Rep (nb:Nat) (sz:Nat→Nat) (s:Ms) (t:Fs):Prop where
 rl:s.r.length=64
 r:∀x,x<64→s.r.getD x 0=t.r x
 bl:s.bufs.length=nb
 len:∀b,b<nb→(s.bufs.getD b []).length=sz b
 m:∀b n,b<nb→n<sz b→(s.bufs.getD b []).getD n 0=t.m b n
section rep
variable {nb : Nat} {sz : Nat → Nat} {s : Ms} {t : Fs}
def Rep.at(h:Rep nb sz s t){x:Int}(hx:x<64):atR s.r x=Us t x:=by
 unfold atR Us;split
 ·rfl
 ·exact h.r _ J
def jy(l:List vT)(i g:Nat)(v d:vT)(h:i<l.length):(l.set i v).getD g d=if g=i then v else l.getD g d:=by
 simp only[J0,Og];by_cases q:g=i
 ·subst q;simp[h]
 ·rw[J2 (Ne.symm q),J2 q]
def Rep.put(h:Rep nb sz s t){x:Int}{v:UInt64}{i:Nat}{f:Bool}{l:List (Int×Int)}(hx:x<64):Rep nb sz ⟨i,f,Ot s.r x v,s.bufs,l⟩ (Ss t x v):=by
 unfold Ot Ss;split
 ·refine⟨by simpa using h.rl,λy hy=>?_,h.bl,h.len,h.m⟩;show (s.r.set x.toNat v).getD y 0=if y=x.toNat then v else t.r y
  rw[jy _ _ _ _ _ (by rw[h.rl];omega)];split
  ·rfl
  ·exact h.r y hy
 ·exact⟨h.rl,h.r,h.bl,h.len,h.m⟩
def Rep.ctl(h:Rep nb sz s t){i:Nat}{f:Bool}{l:List (Int×Int)}:Rep nb sz ⟨i,f,s.r,s.bufs,l⟩ t:=⟨h.rl,h.r,h.bl,h.len,h.m⟩
def Rep.sto(h:Rep nb sz s t){b n:Nat}{v:UInt64}{i:Nat}{f:Bool}{l:List (Int×Int)}(hb:b<nb)(hn:n<sz b):Rep nb sz ⟨i,f,s.r,s.bufs.set b ((s.bufs.getD b []).set n v),l⟩ (t.sto b n v):=by
 have gg:b<s.bufs.length:=by rw[h.bl];exact hb
 refine⟨h.rl,h.r,by simpa using h.bl,λx hx=>?_,λx y hx hy=>?_⟩
 ·show ((s.bufs.set b _).getD x []).length=_;rw[jy _ _ _ _ _ gg];split
  ·rename_i q;subst q;rw[L7];exact h.len x hx
  ·exact h.len x hx
 ·show ((s.bufs.set b _).getD x []).getD y 0=if x=b∧y=n then v else t.m x y
  rw[jy _ _ _ _ _ gg];by_cases q:x=b
  ·subst q;rw[J8 rfl,jy _ _ _ _ _ (by rw[h.len x hx];exact hn)];by_cases q2:y=n
   ·simp[q2]
   ·simp only[q2,and_false,Mz];exact h.m x y hx hy
  ·simp only[q,false_and,Mz];exact h.m x y hx hy
end rep
def zev{j:List Lo}{z:List Int}:∀(n k:Nat) (s g:Ms),Qk j z n s=some g→Qk j z (n+k) s=Qk j z k g
 |0,k,s,g,h=>by cases h;rw[Kw]
 |n+1,k,s,g,h=>by
  unfold Qk at h;split at h
  ·cases h
  ·rename_i A B;rw[(J:n+1+k=(n+k)+1)];show (match Si j z s with|none=>none|some g=>Qk j z (n+k) g)=_;rw[B];exact zev n k A g h
def doR_ok{nb:Nat}{sz:Nat→Nat}{s:Ms}{t E:Fs}{o:Lo}(h:Rep nb sz s t)(hd:o.d<64)(he:o.e<64)(F:o.a<64)(G:o.b<64)(H:o.c<64)(g:o.buf.toNat<nb)(z:S9 sz o t=some E) :
  ∃C,Vi o s=some C∧C.i=s.i+1∧C.first=s.first∧Rep nb sz C E∧C.l.length=s.l.length+1:=by
 unfold S9 at z;unfold Vi;rw[h.at F,h.at G,h.at H];unfold Uu;have I:o.buf.toNat<s.bufs.length:=by rw[h.bl];exact g
 split at z
 ·rename_i A;rw[J8 A,h.len _ g];split at z
  ·rename_i j;rw[J8 j];cases z;refine⟨_,rfl,rfl,rfl,?_,N⟩;rw[h.m _ _ g j];have D:=h.put (x:=o.d) (v:=t.m o.buf.toNat (o.imm+Us t o.a).toNat) (i:=0) (f:=true) (l:=[]) hd;exact D.put he
  ·cases z
 ·rename_i A;rw[J2 A];split at z
  ·rename_i B;rw[J8 B,h.len _ g];split at z
   ·rename_i j;rw[J8 j];cases z;refine⟨_,rfl,rfl,rfl,?_,N⟩;have K:=h.sto (v:=Us t o.b) (i:=0) (f:=true) (l:=[]) g j;have D:=K.put (x:=o.d) (v:=0) (i:=0) (f:=true) (l:=[]) hd;exact D.put he
   ·cases z
  ·rename_i B;rw[J2 B];cases z;refine⟨_,rfl,rfl,rfl,?_,N⟩;have D:=h.put (x:=o.d) (v:=(Pf o (Us t o.a) (Us t o.b) (decide (Us t o.c%2=1))).1) (i:=0) (f:=true) (l:=[]) hd;exact D.put he
def Fr.costZ:Fr Lo→Nat
 |.nil=>0
 |.op _ r=>1+r.costZ
 |.loop o b _ r=>o.imm.toNat*(b.costZ+2)+r.costZ
def zag{l:List vT}{i:Nat}{a:vT}{r:List vT}(h:l.drop i=a::r):l[i]?=some a∧l.drop (i+1)=r:=by
 have g:=congrArg (λl=>l[0]?) h;simp at g;refine⟨g,?_⟩;rw[←List.drop_drop,h];rfl
def zll{l a r:List vT}{i:Nat}(h:l.drop i=a++r):l.drop (i+a.length)=r:=by
 rw[←List.drop_drop,h,List.drop_left]
def ofNat_lt:(UInt64.ofNat g+1:UInt64)=UInt64.ofNat (g+1):=by
 apply UInt64.toNat.inj;simp
def zes{os:List Lo}{es:List Int}{nb:Nat}{sz:Nat→Nat}:∀(f:Fr Lo) (i:Nat) (H:List Nat) (z:List Lo) (T:List Int) (s:Ms) (t K:Fs),f.wf Rt→f.regs nb H=true→os.drop i=f.flat++z→es.drop i=f.ends i++T→s.i=i→s.first=true→Rep nb sz s t→Ve sz f t=some K →
  ∃n j,Qk os es n s=some j∧j.i=i+f.size∧j.first=true∧Rep nb sz j K∧n≤f.costZ∧j.l.length≤s.l.length+f.costZ
 |.nil,i,H,z,T,s,t,K,_,_,_,_,hi,X,Y,C=>by
  cases C;exact⟨0,s,rfl,by simp[Fr.size,hi],X,Y,J4 _,J4 _⟩
 |.op o r,i,H,z,T,s,t,K,hw,L,Z,he,hi,X,Y,C=>by
  simp only[Fr.regs,Jz,ky,Kb,K8]at L;obtain⟨⟨d1,d2⟩,⟨e1,e2⟩,a1,b1,c1,f1,L⟩:=L;have d3:o.d<64:=by rcases d2 with d2|d2<;>omega
  have e3:o.e<64:=by rcases e2 with e2|e2<;>omega
  simp only[Fr.flat,K2]at Z;simp only[Fr.ends,K2]at he;obtain⟨D,F⟩:=zag Z;obtain⟨gG,G⟩:=zag he;unfold Ve at C;split at C
  ·cases C
  rename_i t1 h1;obtain⟨s1,q1,q2,q3,q4,q5⟩:=doR_ok Y d3 e3 a1 b1 c1 f1 h1;obtain⟨n,j,U,V,p3,M,p5,p6⟩:=zes r (i+1) H z T s1 t1 K hw.2 L F G (by rw[q2,hi]) (by rw[q3,X]) q4 C;have hk:=hw.1;have A:Si os es s=some s1:=by
   unfold Si;rw[hi,D];dsimp only;unfold Rt at hk;rw[J2 (λq=>by simp[q]at hk),J2 (λq=>by simp[q]at hk)];exact q1
  refine⟨n+1,j,?_,by rw[V];simp[Fr.size];omega,p3,M,by simp[Fr.costZ];omega,by simp[Fr.costZ];omega⟩;show (match Si os es s with|none=>none|some j=>Qk os es n j)=_;rw[A];exact U
 |.loop o b e r,i,H,z,T,s,t,K,hw,L,Z,he,hi,X,Y,C=>by
  simp only[Fr.regs,Jz,ky,Kb,K8]at L;obtain⟨⟨d1,d2⟩,d0,m1,gg,gH⟩:=L;have d3:o.d<64:=by rcases d2 with d2|d2<;>omega
  obtain⟨w1,w2,w3,w4⟩:=hw;have gA:o.kind=16:=by unfold Rt at w1;split at w1<;>first|assumption|(split at w1<;>omega)
  have gI:e.kind=17:=by
   unfold Rt at w2;split at w2
   ·omega
   ·split at w2
    ·assumption
    ·omega
  simp only[Fr.flat,K2,Kz]at Z;simp only[Fr.ends,K2,Kz]at he;obtain⟨D,F⟩:=zag Z;obtain⟨gG,G⟩:=zag he;have gB:=zll F;have gC:=zll G;rw[Fr.flat_len]at gB;rw[Fr.ends_len]at gC;obtain⟨gK,gL⟩:=zag gB;obtain⟨gM,gD⟩:=zag gC;have O:(es.getD (i+1+b.size) 0).toNat=i:=by rw[J0,gM];simp
  unfold Ve at C;split at C
  ·cases C
  rename_i t1 h1;have gO:=zeu b (o.d.toNat::H) (Kx ..) gg;have jz:=o.imm.toNat_lt;have P:∀(n B:Nat) (s:Ms) (t:Fs),1≤n→B+n=o.imm.toNat→s.i=i+1→s.first=true→Rep nb sz s (t.put o.d.toNat (UInt64.ofNat B))→ly (Ve sz b) o.d.toNat n B t=some t1 →
    ∃k j,Qk os es k s=some j∧j.i=i+b.size+2∧j.first=true∧Rep nb sz j t1∧k≤n*(b.costZ+2)-1∧j.l.length≤s.l.length+(n*(b.costZ+2)-1):=by
   intro n
   induction n with
   |zero=>intro B s t h;omega
   |succ n ih =>
    intro B s t _ hj gR gT gF E;unfold ly at E;split at E
    ·cases E
    rename_i t2 h2;obtain⟨k,g,U,V,p3,M,p5,p6⟩:=zes b (i+1) (o.d.toNat::H) _ _ s _ t2 w3 gg F G gR gT gF h2;have gU:t2.r o.d.toNat=UInt64.ofNat B:=by
     rw[Yb b _ _ gO h2];show (if o.d.toNat=o.d.toNat then _ else _)=_;rw[J8 rfl]
    have gV:atR g.r o.d=UInt64.ofNat B:=by
     rw[M.at d3];unfold Us;rw[J2 J,gU]
    have A:Si os es g=if UInt64.ofNat B+1<o.imm then some ⟨i,false,Ot g.r o.d (UInt64.ofNat B+1),g.bufs,g.l⟩ else some ⟨g.i+1,g.first,g.r,g.bufs,g.l⟩:=by
     unfold Si;rw[V,gK];dsimp only;rw[J2 J,J8 gI,O,D];dsimp only;rw[gV]
    cases n with
    |zero =>
     have gX:¬(UInt64.ofNat B+1<o.imm):=by
      rw[Lu];have:(UInt64.ofNat B+1:UInt64).toNat=(B+1)%18446744073709551616:=N
      rw[this];by_cases q:B+1<18446744073709551616
      ·rw[Kt q];omega
      ·omega
     rw[J2 gX]at A;cases E;refine⟨k+1,⟨g.i+1,g.first,g.r,g.bufs,g.l⟩,?_,?_,p3,M.ctl,J,by show g.l.length≤_;omega⟩
     ·rw[zev k 1 s g U];show (match Si os es g with|none=>none|some j=>Qk os es 0 j)=_;rw[A];rfl
     ·show g.i+1=_;rw[V];omega
    |succ n =>
     have gY:UInt64.ofNat B+1<o.imm:=by
      rw[Lu];have:(UInt64.ofNat B+1:UInt64).toNat=(B+1)%18446744073709551616:=N
      rw[this,Kt J];omega
     rw[J8 gY]at A;have gZ:(UInt64.ofNat B+1:UInt64)=UInt64.ofNat (B+1):=ofNat_lt;have Q:Rep nb sz ⟨i+1,true,Ot g.r o.d (UInt64.ofNat B+1),g.bufs,g.l++[((i:Int),-1)]⟩ (t2.put o.d.toNat (UInt64.ofNat (B+1))):=by
      have h:=M.put (x:=o.d) (v:=UInt64.ofNat B+1) (i:=i+1) (f:=true) (l:=g.l++[((i:Int),-1)]) d3;rw[gZ]at h ⊢;unfold Ss at h;rw[J8 d0]at h;exact h
     obtain⟨I,s3,u1,u2,u3,u4,u5,u6⟩:=ih (B+1) _ t2 J J rfl rfl Q E;have hm:(n+1+1)*(b.costZ+2)=(n+1)*(b.costZ+2)+(b.costZ+2):=N1 _ _;have jA:b.costZ+2≤(n+1)*(b.costZ+2):=Nat.le_mul_of_pos_left _ J;refine⟨k+(I+2),s3,?_,u2,u3,u4,J,?_⟩
     ·rw[zev k _ s g U];show (match Si os es g with|none=>none|some j=>Qk os es (I+1) j)=_;rw[A];show (match Si os es (⟨i,false,Ot g.r o.d (UInt64.ofNat B+1),g.bufs,g.l⟩:Ms) with|none=>none|some j=>Qk os es I j)=_;have:Si os es (⟨i,false,Ot g.r o.d (UInt64.ofNat B+1),g.bufs,g.l⟩:Ms)=some ⟨i+1,true,Ot g.r o.d (UInt64.ofNat B+1),g.bufs,g.l++[((i:Int),-1)]⟩:=by
       unfold Si;dsimp only;rw[D];dsimp only;rw[J8 gA];rfl
      rw[this];exact u1
     ·simp only[J7,Kn,Mb]at u6;omega
  have R:Rep nb sz ⟨i+1,true,Ot s.r o.d 0,s.bufs,s.l++[((i:Int),-1)]⟩ (t.put o.d.toNat (UInt64.ofNat 0)):=by
   have h:=Y.put (x:=o.d) (v:=0) (i:=i+1) (f:=true) (l:=s.l++[((i:Int),-1)]) d3;unfold Ss at h;rw[J8 d0]at h;exact h
  obtain⟨k,s1,U,V,p3,M,p5,p6⟩:=P o.imm.toNat 0 _ t m1 J rfl rfl R h1;have jg:b.costZ+2≤o.imm.toNat*(b.costZ+2):=Nat.le_mul_of_pos_left _ J;obtain⟨I,g,u1,u2,u3,u4,u5,u6⟩:=zes r (i+b.size+2) H z T s1 t1 K w4 gH (by rw[(J:i+b.size+2=i+1+b.size+1)];exact gL) (by rw[(J:i+b.size+2=i+1+b.size+1)]at gD ⊢;exact gD) V p3 M C;refine⟨(k+I)+1,g,?_,by rw[u2];simp[Fr.size];omega,u3,u4,by simp only[Fr.costZ];omega,?_⟩
  ·show (match Si os es s with|none=>none|some j=>Qk os es (k+I) j)=_;have:Si os es s=some ⟨i+1,true,Ot s.r o.d 0,s.bufs,s.l++[((i:Int),-1)]⟩:=by
    unfold Si;rw[hi,D];dsimp only;rw[J8 gA,X];rfl
   rw[this];show Qk os es (k+I) _=_;rw[zev k I _ s1 U];exact u1
  ·simp only[J7,Kn,Mb]at p6;simp only[Fr.costZ];omega
end
def V4:Nat→List Nat→List Int→List Lo→List Int
 |_,_,g,[]=>g
 |i,st,g,o::l=>if o.kind=16 then V4 (i+1) (i::st) (g.set i (-1)) l
  else if o.kind=17 then (match st with
   |[]=>V4 (i+1) [] (g.set i (-1)) l
   |a::j=>V4 (i+1) j (((g.set i (-1)).set i a).set a i) l)
  else V4 (i+1) st (g.set i (-1)) l
def endsR_tree:∀(f:Fr Lo) (i:Nat) (st:List Nat) (j g:List Int) (z:List Lo),f.wf Rt→j.length=i →
  V4 i st (j++List.replicate f.size 0++g) (f.flat++z)=V4 (i+f.size) st (j++f.ends i++g) z
 |.nil,i,st,j,g,z,_,_=>by simp[Fr.flat,Fr.size,Fr.ends]
 |.op o r,i,st,j,g,z,w,B=>by
  have h:=endsR_tree r (i+1) st (j++[-1]) g z w.2 Aw;have G:=w.1;have K:¬o.kind=16:=λq=>by simp[Rt,q]at G
  have L:¬o.kind=17:=λq=>by simp[Rt,q]at G
  simp only[Fr.flat,Fr.size,Fr.ends,K2,V4,K,L,Mz,Mt];simp only[Kz,K2,N0]at h ⊢;rw[Nc _ _ J,(J:i-j.length=0),Ob,h]
  congr 1;omega
 |.loop o b e r,i,st,j,g,z,w,B=>by
  obtain⟨C,D,M,O⟩:=w;have E:o.kind=16:=by unfold Rt at C;split at C<;>first|assumption|(split at C<;>omega)
  have F:e.kind=17:=by
   unfold Rt at D;split at D
   ·omega
   ·split at D
    ·assumption
    ·omega
  have H:=endsR_tree b (i+1) (i::st) (j++[-1]) ([0]++List.replicate r.size 0++g) (e::(r.flat++z)) M Aw;have I:=endsR_tree r (i+b.size+2) st (j++[((i+b.size+1:Nat):Int)]++b.ends (i+1)++[(i:Int)]) g z O (by simp[B,Fr.ends_len];omega);have P:List.replicate (b.size+r.size+2) (0:Int)=[0]++List.replicate b.size 0++([0]++List.replicate r.size 0):=by
   rw[(J:b.size+r.size+2=1+b.size+(1+r.size)),←Nr,←Nr,←Nr];rfl
  simp only[Fr.flat,Fr.size,K2,V4,E,M5];rw[P];simp only[Kz,K2,N0]at H I ⊢;rw[Nc _ _ J,(J:i-j.length=0),Ob,H];simp only[V4,F];have A:(((j++(-1:Int)::(b.ends (i+1)++(0:Int)::(List.replicate r.size 0++g))).set (i+1+b.size) (-1)).set (i+1+b.size) (i:Int)).set i ((i+1+b.size:Nat):Int)
    = j++((i+b.size+1:Nat):Int)::(b.ends (i+1)++(i:Int)::(List.replicate r.size 0++g)):=by
   rw[List.set_set,Nc _ _ J,Nc _ _ J,(J:i+1+b.size-j.length=b.size+1),(J:i-j.length=0),List.set_cons_succ,Ob,
    Nc _ _ (by rw[Fr.ends_len];exact J4 _),Fr.ends_len,N5,Ob,(J:i+1+b.size=i+b.size+1)]
  rw[A,(J:i+1+b.size+1=i+b.size+2),I];simp only[Fr.ends,K2,Kz];rw[(J:i+(b.size+r.size+2)=i+b.size+2+r.size)];simp[Nat.add_comm]
def zrq{f:Fr Lo}(w:f.wf Rt):V4 0 [] (List.replicate f.size 0) f.flat=f.ends 0:=by
 have h:=endsR_tree f 0 [] [] [] [] w rfl;simp only[Lf,N0,V4]at h;exact h
def fb{f:Fr Lo}:∀{d:Nat} {rest:List Lo},f.wf Rt→Wq Rt d rest→Wq Rt d (f.flat++rest):=by
 induction f with
 |nil=>intro d rest _ h;exact h
 |op o r z =>
  intro d rest w h;simp only[Fr.flat,K2];unfold Wq;rw[w.1,J2 Ac,J2 Ac];exact⟨rfl,z w.2 h⟩
 |loop o b e r g j =>
  intro d rest w h;obtain⟨A,B,C,D⟩:=w;simp only[Fr.flat,K2,Kz];unfold Wq;rw[A,J8 rfl];refine g C ?_;unfold Wq;rw[B,J2 Ac,J8 rfl];exact⟨J,j D h⟩
def endsR_len:∀(l:List Lo) (i:Nat) (st:List Nat) (g:List Int),(V4 i st g l).length=g.length
 |[],_,_,_=>rfl
 |o::l,i,st,g=>by
  unfold V4;split
  ·rw[endsR_len];simp
  ·split
   ·split<;>rw[endsR_len]<;>simp
   ·rw[endsR_len];simp
def Wh:List (Int×Int)→Int→List Lo→Int
 |_,s,[]=>s
 |st,s,o::l=>if o.kind=16 then Wh ((s,(o.imm.toNat:Int))::st) 1 l
  else if o.kind=17 then (match st with
   |[]=>Wh [] s l
   |(j,t)::g=>Wh g (min 1125899906842624 ((if 1125899906842624/t<s then 1125899906842624 else s*t)+j)) l)
  else Wh st (min 1125899906842624 (s+1)) l
def Fr.stp:Fr Lo→Nat
 |.nil=>0
 |.op _ r=>1+r.stp
 |.loop o b _ r=>o.imm.toNat*(1+b.stp)+r.stp
def znu{a b:Nat}(h:1≤a):b≤a*b:=Nat.le_mul_of_pos_left _ h
def zek{K:Nat}:∀(f:Fr Lo) (j:List Nat) (st:List (Int×Int)) (s:Nat) (g:List Lo),f.wf Rt→f.regs K j=true→s+f.stp≤1125899906842624→Wh st s (f.flat++g)=Wh st ((s+f.stp:Nat):Int) g
 |.nil,_,st,s,g,_,_,_=>by simp[Fr.flat,Fr.stp]
 |.op o r,j,st,s,g,w,z,A=>by
  have H:=w.1;have L:¬o.kind=16:=λq=>by simp[Rt,q]at H
  have M:¬o.kind=17:=λq=>by simp[Rt,q]at H
  simp only[Fr.regs,Jz]at z;simp only[Fr.stp]at A ⊢;simp only[Fr.flat,K2,Wh,L,M,Mz];rw[(J:min (1125899906842624:Int) ((s:Int)+1)=((s+1:Nat):Int)),zek r j st (s+1) g w.2 z.2.2.2.2.2.2 J]
  congr 1;omega
 |.loop o b e r,j,st,s,g,w,z,A=>by
  obtain⟨B,C,O,P⟩:=w;have D:o.kind=16:=by unfold Rt at B;split at B<;>first|assumption|(split at B<;>omega)
  have E:e.kind=17:=by
   unfold Rt at C;split at C
   ·omega
   ·split at C
    ·assumption
    ·omega
  simp only[Fr.regs,Jz,Kb]at z;obtain⟨_,_,I,F,G⟩:=z;simp only[Fr.stp]at A ⊢;have Q:=znu (b:=1+b.stp) I;simp only[Fr.flat,K2,Kz,Wh,D,M5];rw[show (1:Int)=((1:Nat):Int) from rfl,zek b _ _ 1 _ O F J];simp only[Wh,E];rw[J2 (Ac:¬(17:Int)=16),J8 trivial];have R:¬(1125899906842624/((o.imm.toNat:Nat):Int)<((1+b.stp:Nat):Int)):=by
   have T:(1+b.stp)*o.imm.toNat≤1125899906842624:=by rw[Mo];omega
   have U:1+b.stp≤1125899906842624/o.imm.toNat:=(Nat.le_div_iff_mul_le I).2 T;have V:((1125899906842624/o.imm.toNat:Nat):Int)=1125899906842624/((o.imm.toNat:Nat):Int):=N
   omega
  rw[J2 R];have hm:(((1+b.stp:Nat):Int)*((o.imm.toNat:Nat):Int))=((o.imm.toNat*(1+b.stp):Nat):Int):=by rw[Mo];simp
  rw[hm,(J:min (1125899906842624:Int) (((o.imm.toNat*(1+b.stp):Nat):Int)+(s:Int))=((s+o.imm.toNat*(1+b.stp):Nat):Int)),zek r j st _ g P G J]
  congr 1;omega
def c9{f:Fr Lo}(w:f.wf Rt)(j:f.regs g vA=true)(z:f.stp≤1125899906842624):Wh [] 0 f.flat=f.stp:=by
 have h:=zek f vA [] 0 [] w j J;simp only[Lf,Wh,Kw]at h;exact h
def V8(b:Bf)(x:List UInt64):List UInt64:=x++List.replicate (b.size.toNat-x.length) 0
def T9(bs:List Bf)(X:List (List UInt64))(n:Nat):List (List UInt64):=(List.range n).map λi=>V8 (Oy bs i) (X.getD i [])
def Rf(g:Int)(bs:List Bf)(X:List (List UInt64)):Ms:=⟨0,true,List.replicate g.toNat 0,T9 bs X bs.length,[]⟩
def dg(g:List Bf)(j:List (List UInt64))(n:Nat):(T9 g j n).length=n:=by simp[T9]
def zca(r:List UInt64)(x:Int)(v:UInt64):(Ot r x v).length=r.length:=Ft
structure SameLen (s s':Ms):Prop where
 r:s'.r.length=s.r.length
 b:s'.bufs.map List.length=s.bufs.map List.length
 i:s'.i=s.i+1
 l:s'.l.length=s.l.length+1
 f:s'.first=s.first
def om{o:Lo}{s j:Ms}(h:Vi o s=some j):SameLen s j:=by
 unfold Vi at h;split at h
 ·split at h
  ·cases h;exact⟨by simp[zca],rfl,rfl,N,rfl⟩
  ·cases h
 ·split at h
  ·split at h
   ·rename_i z;cases h;refine⟨by simp[zca],?_,rfl,N,rfl⟩;show (s.bufs.set _ _).map List.length=_;rw[K9,L7];refine List.ext_getElem? λA=>?_
    by_cases q:o.buf.toNat=A
    ·subst q;by_cases g:o.buf.toNat<s.bufs.length
     ·rw[J1 Bc];simp[Uu,J0,g]
     ·rw[M3 Bc,M3 Bc]
    ·rw[Jy q]
   ·cases h
  ·cases h;exact⟨by simp[zca],rfl,rfl,N,rfl⟩
def zpz{os:List Lo}{es:List Int}{s:Ms}(h:os[s.i]?=none):∀n,Qk os es n s=some s
 |0=>rfl
 |n+1=>by
  show (match Si os es s with|none=>none|some g=>Qk os es n g)=_;have:Si os es s=some s:=by unfold Si;rw[h]
  rw[this];exact zpz h n
def ends_at:∀(f:Fr Lo) (i j:Nat) (o:Lo),f.wf Rt→f.flat[j]?=some o→o.kind=17→∃k p,(f.ends i)[j]?=some ((i+k:Nat):Int)∧f.flat[k]?=some p∧p.kind=16
 |.nil,_,_,_,_,h,_=>by simp[Fr.flat]at h
 |.op a r,i,j,o,w,h,z=>by
  have C:=w.1;have H:¬a.kind=17:=λq=>by simp[Rt,q]at C
  cases j with
  |zero=>simp[Fr.flat]at h;subst h;exact absurd z H
  |succ j =>
   simp only[Fr.flat,Kh]at h;obtain⟨k,p,A,g,B⟩:=ends_at r (i+1) j o w.2 h z;exact⟨k+1,p,by simp only[Fr.ends,Kh];rw[A];congr 2;omega,by simpa only[Fr.flat,Kh] using g,B⟩
 |.loop a b e r,i,j,o,w,h,z=>by
  obtain⟨D,M,I,K⟩:=w;have E:a.kind=16:=by unfold Rt at D;split at D<;>first|assumption|(split at D<;>omega)
  cases j with
  |zero=>simp[Fr.flat]at h;subst h;omega
  |succ j =>
   simp only[Fr.flat,Kh]at h;simp only[Fr.ends,Kh];by_cases G:j<b.size
   ·rw[J6 (by rw[Fr.flat_len];exact G)]at h;obtain⟨k,p,A,g,B⟩:=ends_at b (i+1) j o I h z;have F:k<b.size:=by rw[←Fr.flat_len];exact (Jx.1 g).1
    refine⟨k+1,p,?_,?_,B⟩
    ·rw[J6 (by rw[Fr.ends_len];exact G),A];congr 2;omega
    ·simp only[Fr.flat,Kh];rw[J6 (by rw[Fr.flat_len];exact F)];exact g
   ·rw[Kj (by rw[Fr.flat_len];omega),Fr.flat_len]at h;rw[Kj (by rw[Fr.ends_len];omega),Fr.ends_len];cases L:j-b.size with
    |zero =>
     refine⟨0,a,N,by simp[Fr.flat],E⟩
    |succ m =>
     rw[L]at h;simp only[Kh]at h ⊢;obtain⟨k,p,A,g,B⟩:=ends_at r (i+b.size+2) m o K h z;refine⟨k+b.size+2,p,by rw[A];congr 2;omega,?_,B⟩;simp only[Fr.flat,Kh];rw[Kj (by rw[Fr.flat_len];omega),Fr.flat_len,(J:k+b.size+1-b.size=k+1),Kh];exact g
noncomputable section
structure Pc where
 buf:Int
 at_:Int
 size:Int
def Pc.f(p:Pc):List LV:=[.i p.buf,.i p.at_,.i p.size]
def cK(d:Int)(n:UInt64):Lo:=⟨1,d,-1,-1,-1,-1,0,n⟩
def Vy(d a:Int):Lo:=⟨2,d,-1,a,-1,-1,0,0⟩
def Pd(k d a b:Int):Lo:=⟨k,d,-1,a,b,-1,0,0⟩
def cSh(k d a g:Int):Lo:=⟨k,d,-1,a,-1,-1,0,iU g⟩
def Rr(h l a b:Int):Lo:=⟨10,h,l,a,b,-1,0,0⟩
def Py(k d g a b c:Int):Lo:=⟨k,d,g,a,b,c,0,0⟩
def lu(d c a b:Int):Lo:=⟨13,d,-1,a,b,c,0,0⟩
def Qw(d:Int)(p:Pc)(i g:Int):Lo:=⟨14,d,-1,i,-1,-1,p.buf,iU (p.at_+g)⟩
def P2(p:Pc)(i off b:Int):Lo:=⟨15,-1,-1,i,b,-1,p.buf,iU (p.at_+off)⟩
def Xx(d g:Int):Lo:=⟨16,d,-1,-1,-1,-1,0,iU g⟩
def Vu:Lo:=⟨17,-1,-1,-1,-1,-1,0,0⟩
def Kp(e:Nat)(z j:Ok):Prop:=z.length≤j.length∧∀(q:Nat) (g:LObj),q≠e→(∀A m k st,g≠LObj.dyn A m 8 k st)→z[q]?=some g→j[q]?=some g
def Kp.refl(e:Nat)(G:Ok):Kp e G G:=⟨J4 _,λ_ _ _ _ h=>h⟩
def Kp.trans{e:Nat}{a b c:Ok}(h:Kp e a b)(k:Kp e b c):Kp e a c:=⟨K4 h.1 k.1,λq ob h1 h2 h3=>k.2 q ob h1 h2 (h.2 q ob h1 h2 h3)⟩
def Kp.cells{e:Nat}{a b:Ok}(h:Kp e a b){q st:Nat}{l:List LV}(hq:q≠e)(hc:a[q]?=some (.cells l st)):b[q]?=some (.cells l st):=h.2 q _ hq (λ_ _ _ _ e=>An) hc
def Kp.app{e:Nat}{a b:Ok}(h:Kp e a b)(x:List LObj):Kp e a (b++x):=⟨by have:=h.1;simp;omega,λq ob h1 h2 h3=>by have h4:=h.2 q ob h1 h2 h3;rw[Oo (Jx.1 h4).1];exact h4⟩
def Kp.app'(e:Nat)(a:Ok)(x:List LObj):Kp e a (a++x):=(Kp.refl e a).app x
def P1(g:Ok)(e:Nat)(ops:List Lo)(deep:Int):Prop:=∃(st:Nat) (v:LV),g[e]?=some (.cells [v,.i deep] st)∧Qt 0 g v 8 ops.length (Se ops)
def Qt.set_cells{b:Nat}{G:Ok}{v:LV}{n:Nat}{l:List LV}(h:Qt b G v j n l){q st:Nat}{c:List LV}{ob:LObj}(hq:G[q]?=some (.cells c st)):Qt b (G.set q ob) v j n l:=by
 obtain⟨h1,h2,h|⟨p,k,st,a,e,d⟩⟩:=h
 ·exact⟨h1,h2,.inl h⟩
 ·exact⟨h1,h2,.inr ⟨p,k,st,a,e,by rw[Jy (λq'=>by rw[q',d]at hq;cases hq)];exact d⟩⟩
def Qt.row{b:Nat}{G:Ok}{v:LV}{esz n:Nat}{l:List LV}(h:Qt b G v esz n l){q:Nat}(e:v=.dy q j):∃R m k st,G[q]?=some (.dyn R m esz k st):=by
 obtain⟨_,_,⟨h,_⟩|⟨p,k,st,_,e2,d⟩⟩:=h
 ·rw[h]at e;cases e
 ·rw[e2]at e;cases e;exact⟨_,_,_,_,d⟩
def P1.app{G:Ok}{e:Nat}{ops:List Lo}{deep:Int}(h:P1 G e ops deep)(x:List LObj):P1 (G++x) e ops deep:=by
 obtain⟨st,v,h1,h2⟩:=h;exact⟨st,v,by rw[Oo (Jx.1 h1).1];exact h1,h2.push_end⟩
end
section
section made
variable {wk : Bool → Int} {a b Ry : Nat → Int} {sec : Nat → Bool} {done busy : List Nat} {iv : Nat → Hl} {ps : Bool → St} {cur base : Int} {n : Nat}
end made
end
section
def jr{α:Type}(k:α→Int)(l:List α):Prop:=l.Pairwise λx y=>k x≤k y
section sym
variable {α : Type} {k : α → Int}
def jr.last{l:List α}(h:jr k l){u z:α}(hu:u∈l)(hz:l.getLast?=some z):k u≤k z:=by
 obtain⟨ys,rfl⟩:=List.getLast?_eq_some_iff.1 hz;have:=List.pairwise_append.1 h;rcases Ks.1 hu with q|q
 ·exact this.2.2 u q z N
 ·rw[List.mem_singleton.1 q];exact Int.le_refl _
def jr.head{l:List α}(h:jr k l){u z:α}(hu:u∈l)(hz:l.head?=some z):k z≤k u:=by
 obtain⟨ys,rfl⟩:=List.head?_eq_some_iff.1 hz;have:=Nj.1 h;rcases J9.1 hu with q|q
 ·rw[q];exact Int.le_refl _
 ·exact this.1 u q
def zu3{l:List α}{u:α}(h:u∈l):∃j,l.getLast?=some j:=by
 cases g:l.getLast? with
 |none=>rw[List.getLast?_eq_none_iff]at g;subst g;cases h
 |some j=>exact⟨j,rfl⟩
def zus{l:List α}{u:α}(h:u∈l):∃g,l.head?=some g:=by
 cases l with
 |nil=>cases h
 |cons g t=>exact⟨g,rfl⟩
def ep{z A B C:List α}(D:jr k (z++A))(E:jr k (B++C))(F:∀u w,z.getLast?=some u→C.head?=some w→k u≤k w)(G:∀u w,B.getLast?=some u→A.head?=some w→k u≤k w) :
  ∀u∈z++B,∀w∈A++C,k u≤k w:=by
 obtain⟨H,I,K⟩:=List.pairwise_append.1 D;obtain⟨L,M,O⟩:=List.pairwise_append.1 E;intro u hu w hw;rcases Ks.1 hu with hu|hu<;>rcases Ks.1 hw with hw|hw
 ·exact K u hu w hw
 ·obtain⟨P,g⟩:=zu3 hu;obtain⟨y,j⟩:=zus hw;exact N7 (jr.last H hu g) (N7 (F P y g j) (jr.head M hw j))
 ·obtain⟨P,g⟩:=zu3 hu;obtain⟨y,j⟩:=zus hw;exact N7 (jr.last L hu g) (N7 (G P y g j) (jr.head I hw j))
 ·exact O u hu w hw
end sym
end
def zvy(g:List Vr):Tu g (Vp 0 g) []=To g:=by
 unfold Tu;cases z:To g with
 |false=>rfl
 |true =>
  have E:=zh6 z;have A:=startOs_len g 0;obtain⟨m,B,F,C⟩:=zci g 0 (Y4 g) rfl (by simp[Y4]) (λG j=>J) (λG _ j=>by
   unfold gb Y4;rw[J0,Lr,Wm j];rfl)
  rw[B];have hm:lb g m=true:=by
   unfold lb;rw[Lq];intro i hi;simp[C i (L4.1 hi)]
  have D:(Vp 0 g).length≤4096:=J
  simp[hm,D]
def T5(l:List Pc)(n:Nat):Pc:=l.getD n ⟨0,0,0⟩
def Z7(g:List Bf):Int :=
 if 32<g.length then 3 else if (g.any λb=>decide (65536<b.size))=true then 3 else if (g.any λb=>decide (b.size<1) || (decide (b.kind<1) || decide (3<b.kind)))=true then 2 else 0
def We(g:List Bf)(x:Pc):Bool:=decide (0≤x.buf)&&(decide (x.buf<g.length)&&(decide (1≤x.size)&&(decide (x.size≤32768)&&(decide (0≤x.at_)&&(decide (x.at_≤(Oy g x.buf.toNat).size)&&decide (x.size≤(Oy g x.buf.toNat).size-x.at_))))))
def Y8(g:List Bf)(v:Vr)(x:Pc):Bool :=
 We g x&&(decide (x.size=v.limbs)&&(!(decide ((Oy g x.buf.toNat).kind=1) && !Ti v)&&(!(decide ((Oy g x.buf.toNat).kind=2)&&Ti v)&&(v.sec==(Oy g x.buf.toNat).sec))))
def Wk(g:List Bf)(s:Bool)(x:Pc):Bool:=We g x&&(!decide ((Oy g x.buf.toNat).kind=1)&&((Oy g x.buf.toNat).sec==s))
def U0(j:List Vr)(g:List Bf)(z:List Pc)(A B:Pc):Bool :=
 To j&&(decide (1≤g.length)&&(decide (z.length=j.length)&&(decide (Z7 g=0)&&(((List.range j.length).all λi=>Y8 g (gv j i) (T5 z i))&&(Wk g false A&&Wk g true B)))))
def Wl(l:List Pc):List LV:=l.flatMap Pc.f
section
def Pr:List Lo→Fr Lo
 |[]=>.nil
 |o::l=>.op o (Pr l)
def Fr.cat{α:Type}:Fr α→Fr α→Fr α
 |.nil,g=>g
 |.op o r,g=>.op o (r.cat g)
 |.loop o b e r,g=>.loop o b e (r.cat g)
def flat_frL:∀l:List Lo,(Pr l).flat=l
 |[]=>rfl
 |o::l=>by rw[Pr,Fr.flat,flat_frL l]
def T1{j:Type}:∀f g:Fr j,(f.cat g).flat=f.flat++g.flat
 |.nil,g=>rfl
 |.op o r,g=>by rw[Fr.cat,Fr.flat,Fr.flat,T1 r g];rfl
 |.loop o b e r,g=>by rw[Fr.cat,Fr.flat,Fr.flat,T1 r g];simp
def stp_cat:∀f g:Fr Lo,(f.cat g).stp=f.stp+g.stp
 |.nil,g=>by simp[Fr.cat,Fr.stp]
 |.op o r,g=>Gm
 |.loop o b e r,g=>Gm
def xp(l:List Lo):(Pr l).stp=l.length:=by
 induction l with
 |nil=>rfl
 |cons o l g=>rw[Pr,Fr.stp,g,Kn];omega
section ex
variable {sz : Nat → Nat} {s : Fs}
def exZ_cat:∀(f g:Fr Lo) (s:Fs),Ve sz (f.cat g) s=(Ve sz f s).bind (Ve sz g)
 |.nil,g,s=>rfl
 |.op o r,g,s=>by
  rw[Fr.cat,Ve,Ve];cases S9 sz o s with
  |none=>rfl
  |some j=>exact exZ_cat r g j
 |.loop o b e r,g,s=>by
  rw[Fr.cat,Ve,Ve];cases ly (Ve sz b) o.d.toNat o.imm.toNat 0 s with
  |none=>rfl
  |some j=>exact exZ_cat r g j
def Tx(sz:Nat→Nat)(f:Fr Lo)(s:Fs)(j:Fs→Prop):Prop:=∃g,Ve sz f s=some g∧j g
def Tx.nil{Q:Fs→Prop}(h:Q s):Tx sz .nil s Q:=⟨s,rfl,h⟩
def Tx.op{o:Lo}{r:Fr Lo}{s1:Fs}{Q:Fs→Prop}(h:S9 sz o s=some s1)(k:Tx sz r s1 Q):Tx sz (.op o r) s Q:=by
 obtain⟨s',h1,h2⟩:=k;exact⟨s',by rw[Ve,h];exact h1,h2⟩
def Tx.cat{f g:Fr Lo}{Q R:Fs→Prop}(h:Tx sz f s R)(k:∀s',R s'→Tx sz g s' Q):Tx sz (f.cat g) s Q:=by
 obtain⟨s1,h1,h2⟩:=h;obtain⟨s2,h3,h4⟩:=k s1 h2;exact⟨s2,by rw[exZ_cat,h1];exact h3,h4⟩
def Tx.mono{f:Fr Lo}{Q R:Fs→Prop}(h:Tx sz f s R)(k:∀s',R s'→Q s'):Tx sz f s Q:=by
 obtain⟨s1,h1,h2⟩:=h;exact⟨s1,h1,k s1 h2⟩
def vd{f:Fs→Option Fs}{d:Nat}{z:Nat→Fs→Prop}:∀(n j:Nat) (s:Fs),z j s→(∀i s,i<j+n→z i s→∃g,f (s.put d (UInt64.ofNat i))=some g∧z (i+1) g)→∃g,ly f d n j s=some g∧z (j+n) g
 |0,j,s,h,_=>⟨s,rfl,h⟩
 |n+1,j,s,h,k=>by
  obtain⟨A,B,C⟩:=k j s J h;obtain⟨D,E,F⟩:=vd n (j+1) A C λi s hi G=>k i s J G
  refine⟨D,?_,by rw[(J:j+(n+1)=j+1+n)];exact F⟩;show (match f (s.put d (UInt64.ofNat j)) with|none=>none|some g=>ly f d n (j+1) g)=_;rw[B];exact E
def Tx.loop{o e:Lo}{b r:Fr Lo}{Q:Fs→Prop}(gg:Nat→Fs→Prop)(h0:gg 0 s)(h1:∀i s,i<o.imm.toNat→gg i s→Tx sz b (s.put o.d.toNat (UInt64.ofNat i)) (gg (i+1)))(h2:∀I,gg o.imm.toNat I→Tx sz r I Q):Tx sz (.loop o b e r) s Q:=by
 obtain⟨s1,h3,h4⟩:=vd o.imm.toNat 0 s h0 λi s hi hI=>h1 i s J hI
 rw[Kw]at h4;obtain⟨s2,h5,h6⟩:=h2 s1 h4;exact⟨s2,by rw[Ve,h3];exact h5,h6⟩
def yy(s:Fs)(d:Nat)(v:UInt64):Ss s (d:Int) v=s.put d v:=by unfold Ss;rw[J8 J];rfl
def zdi(s:Fs)(v:UInt64):Ss s (-1) v=s:=by unfold Ss;rw[J2 J]
def vt(s:Fs)(d:Nat):Us s (d:Int)=s.r d:=by unfold Us;rw[J2 J];rfl
def atZ_m1(s:Fs):Us s (-1)=0:=by unfold Us;rw[J8 J]
def af{d:Nat}{v:UInt64}:S9 sz (cK d v) s=some (s.put d v):=by simp[S9,cK,Pf,yy,zdi]
def opZ_Mv{d a:Nat}:S9 sz (Vy d a) s=some (s.put d (s.r a)):=by simp[S9,Vy,Pf,yy,zdi,vt]
def zon{d a b:Nat}:S9 sz (Pd 3 d a b) s=some (s.put d (s.r a+s.r b)):=by simp[S9,Pd,Pf,yy,zdi,vt]
def m9{h l a b:Nat}:S9 sz (Rr h l a b) s=some ((s.put h (Uf (s.r a) (s.r b))).put l (s.r a*s.r b)):=by simp[S9,Rr,Pf,yy,vt]
def zob{d e a b c:Nat}:S9 sz (Py 11 d e a b c) s=some ((s.put d (Ow (s.r a) (s.r b) (decide (s.r c%2=1))).1).put e (Qh (Ow (s.r a) (s.r b) (decide (s.r c%2=1))).2)):=by simp[S9,Py,Pf,yy,vt]
def lr{d e a b c:Nat}:S9 sz (Py 12 d e a b c) s=some ((s.put d (Rc (s.r a) (s.r b) (decide (s.r c%2=1))).1).put e (Qh (Rc (s.r a) (s.r b) (decide (s.r c%2=1))).2)):=by simp[S9,Py,Pf,yy,vt]
def zf{d i:Nat}{p:Pc}{b n:Nat}(j:p.buf=(b:Int))(A:(iU (p.at_+z)+s.r i).toNat=n)(g:n<sz b):S9 sz (Qw d p i z) s=some (s.put d (s.m b n)):=by
 simp[S9,Qw,yy,zdi,vt,j,A,g]
def zk{v i:Nat}{p:Pc}{b n:Nat}(j:p.buf=(b:Int))(A:(iU (p.at_+z)+s.r i).toNat=n)(g:n<sz b):S9 sz (P2 p i z v) s=some (s.sto b n (s.r v)):=by
 simp[S9,P2,zdi,vt,j,A,g]
def mj{v:Nat}{p:Pc}{b n:Nat}(j:p.buf=(b:Int))(A:(iU (p.at_+z)).toNat=n)(g:n<sz b):S9 sz (P2 p (-1) z v) s=some (s.sto b n (s.r v)):=by
 simp[S9,P2,zdi,atZ_m1,vt,j,A,g]
end ex
def R7(s:Fs)(d x:Nat)(v:UInt64):(s.put d v).r x=if x=d then v else s.r x:=rfl
def zrv(s:Fs)(d:Nat)(v:UInt64):(s.put d v).m=s.m:=rfl
def znq(s:Fs)(b n:Nat)(v:UInt64):(s.sto b n v).r=s.r:=rfl
def zw9(s:Fs)(b n x y:Nat)(v:UInt64):(s.sto b n v).m x y=if x=b∧y=n then v else s.m x y:=rfl
def Vg(s:Ms):Fs:=⟨λx=>s.r.getD x 0,λb n=>(s.bufs.getD b []).getD n 0⟩
def lh(s:Ms):Nat→Nat:=λb=>(s.bufs.getD b []).length
def Rep.abs(s:Ms)(h:s.r.length=64):Rep s.bufs.length (lh s) s (Vg s):=⟨h,λ_ _=>rfl,rfl,λ_ _=>rfl,λ_ _ _ _=>rfl⟩
end
def gu{d:Int}{v:UInt64}(h:0≤d∧d<z):Rj z T (cK d v)=true:=by
 simp[Rj,cK,Sa,R4,R2,Sm,Xj,Xf,Qd,h]
def zx0{d a:Int}(h:0≤d∧d<z)(g:0≤a∧a<z):Rj z T (Vy d a)=true:=by
 simp[Rj,Vy,Sa,R4,R2,Sm,Xj,Xf,Qd,h,g]
def zsp{k d a b:Int}(B:3≤k∧k≤7)(h:0≤d∧d<z)(g:0≤a∧a<z)(j:0≤b∧b<z):Rj z T (Pd k d a b)=true:=by
 have A:k=3∨k=4∨k=5∨k=6∨k=7:=J
 rcases A with rfl|rfl|rfl|rfl|rfl<;>simp[Rj,Pd,Sa,R4,R2,Sm,Xj,Xf,Qd,h,g,j]
def zsg{d e a b:Int}(h:0≤d∧d<z)(he:0≤e∧e<z)(g:0≤a∧a<z)(j:0≤b∧b<z)(A:d≠e):Rj z T (Rr d e a b)=true:=by
 simp[Rj,Rr,Sa,R4,R2,Sm,Xj,Xf,Qd,h,g,j,he,A]
def zsq{k d e a b c:Int}(g:k=11∨k=12)(h:0≤d∧d<z)(he:0≤e∧e<z)(j:0≤a∧a<z)(A:0≤b∧b<z)(B:0≤c∧c<z)(C:d≠e):Rj z T (Py k d e a b c)=true:=by
 rcases g with rfl|rfl<;>simp[Rj,Py,Sa,R4,R2,Sm,Xj,Xf,Qd,h,j,A,B,he,C]
def zu0{d i:Int}{p:Pc}(h:0≤d∧d<z)(hi:i=-1∨0≤i∧i<z)(g:0≤p.buf∧p.buf<T.length)(hm:i=-1→iU (p.at_+B)<iU (Oy T p.buf.toNat).size):Rj z T (Qw d p i B)=true:=by
 rcases hi with rfl|hi
 ·simp[Rj,Qw,Sa,R4,R2,Sm,Xj,Xf,Qd,h,g,hm rfl]
 ·have:i≠-1:=J
  simp[Rj,Qw,Sa,R4,R2,Sm,Xj,Xf,Qd,h,g,hi,this]
def zms{v i:Int}{p:Pc}(h:0≤v∧v<z)(hi:i=-1∨0≤i∧i<z)(g:0≤p.buf∧p.buf<T.length)(j:(Oy T p.buf.toNat).kind≠1)(hm:i=-1→iU (p.at_+B)<iU (Oy T p.buf.toNat).size):Rj z T (P2 p i B v)=true:=by
 rcases hi with rfl|hi
 ·simp[Rj,P2,Sa,R4,R2,Sm,Xj,Xf,Qd,h,g,hm rfl,j]
 ·have:i≠-1:=J
  simp[Rj,P2,Sa,R4,R2,Sm,Xj,Xf,Qd,h,g,hi,this,j]
def Th(g:Int)(j:List Bf):List Int→List Lo→Prop
 |_,[]=>True
 |S,o::l=>Rj g j o=true∧(o.kind≠16∧o.kind≠17)∧(∀x∈P3 o,x∈S)∧Th g j (O7 o++S) l
def Zq(g:Int)(m:List Bool)(S:List Int):Prop:=(m.length:Int)=g∧∀x∈S,0≤x∧x<g∧P9 m x=true
def z7g{m:List Bool}{a x:Int}(g:0≤a∧a<m.length)(j:0≤x):P9 (m.set a.toNat true) x=true↔x=a∨P9 m x=true:=by
 unfold P9;rw[jy _ _ _ _ _ J];by_cases e:x.toNat=a.toNat
 ·rw[J8 e];simp;left;omega
 ·rw[J2 e];constructor
  ·exact .inr
  ·rintro (rfl|h)
   ·exact absurd rfl e
   ·exact h
def Zq.fold{regs:Int}:∀(mk:List Int) (m:List Bool) (S:List Int),Zq regs m S→(∀x∈mk,0≤x∧x<regs)→Zq regs (mk.foldl (λm r=>m.set r.toNat true) m) (mk++S)
 |[],_,_,h,_=>h
 |a::mk,m,S,h,hr=>by
  have ha:=hr a (Kx ..);have h1:Zq regs (m.set a.toNat true) (a::S):=by
   refine⟨by simpa using h.1,λx hx=>?_⟩;rcases J9.1 hx with rfl|hx
   ·exact⟨ha.1,ha.2,(z7g ⟨ha.1,by rw[h.1];exact ha.2⟩ ha.1).2 (.inl rfl)⟩
   ·obtain⟨h1,h2,h3⟩:=h.2 x hx;exact⟨h1,h2,(z7g ⟨ha.1,by rw[h.1];exact ha.2⟩ h1).2 (.inr h3)⟩
  have h2:=Zq.fold mk _ _ h1 λx hx=>hr x (Kl _ hx)
  refine⟨h2.1,λx hx=>h2.2 x ?_⟩;simp only[Ks,J9]at hx ⊢;rcases hx with (hx|hx)|hx
  ·exact .inr (.inl hx)
  ·exact .inl hx
  ·exact .inr (.inr hx)
def i9{m:List Bool}{ls:List Int}{o:Lo}(B:Rj z T o=true)(g:o.kind≠16)(j:o.kind≠17)(hm:∀x∈O7 o,¬x∈ls)(C:∀x∈P3 o,P9 m x=true) :
  Vn z T m ls o=(0,(O7 o).foldl (λm r=>m.set r.toNat true) m,ls):=by
 unfold Vn;rw[J2 (by rw[B];decide),J2 j,J2,J2 (λq=>g q.1),J2 (λq=>g q.1),J2,J2 g]
 ·rw[K5];rintro⟨x,A,h⟩;rw[C x A]at h;cases h
 ·rw[K5];rintro⟨x,A,h⟩;exact hm x A Ar
def zpi{o:Lo}(h:Rj z T o=true):∀x∈O7 o,0≤x∧x<z:=by
 unfold Rj at h;simp only[Jz,Kb]at h;obtain⟨⟨B,C⟩,d,e,_⟩:=h;have j:∀{x:Int},Sa z x true=true→0≤x∧x<z:=λh=>by unfold Sa at h;simpa using h
 intro x g;unfold O7 at g;split at g
 ·rename_i A;have hd:R4 o.kind=true:=by rcases A with h|h|h<;>rw[h]<;>rfl
  have he:R2 o.kind=true:=by rcases A with h|h|h<;>rw[h]<;>rfl
  rw[hd]at d;rw[he]at e;simp at g;rcases g with rfl|rfl
  ·exact j d
  ·exact j e
 ·split at g
  ·cases g
  ·rename_i A;have hd:R4 o.kind=true:=by simp[R4];omega
   rw[hd]at d;simp at g;subst g;exact j d
def reckA(n r:Int):List Lo:=[cK (r+3) 3,Rr (r+1) r n (r+3),cK (r+3) 2,Pd 7 r r (r+3)]
def reckR(n r:Int):List Lo:=[Rr (r+1) (r+2) n r,Pd 4 (r+2) (r+3) (r+2),Rr (r+1) r r (r+2)]
def reckB(n r:Int)(i:Nat):List Lo:=(List.range i).flatMap λ_=>reckR n r
def reckL(n r:Int):List Lo:=reckA n r++(reckB n r 5++[cK (r+3) 0,Pd 4 r (r+3) r])


noncomputable section
def sumL(g a b:Int):List Lo:=[Rr (g+5) (g+6) a b,Py 11 (g+6) (g+8) (g+6) (g+7) g,Py 11 (g+6) (g+9) (g+6) (g+3) g,Pd 3 (g+5) (g+5) (g+8),Pd 3 (g+3) (g+5) (g+9)]
def topL(t:Pc)(k g:Int):List Lo:=[Qw (g+7) t (-1) k,Py 11 (g+7) (g+8) (g+7) (g+3) g]
def Rs(d g:Int)(b:Fr Lo):Fr Lo:=if g<1 then .nil else .loop (Xx d g) b Vu .nil
def xf(d g:Int)(b:Fr Lo):(Rs d g b).flat=if g<1 then [] else Xx d g::(b.flat++[Vu]):=by
 unfold Rs;split<;>rfl
def timesB(a t:Pc)(g j:Int):List Lo:=[Qw (g+4) a j 0,Qw (g+7) t j 0]++(sumL g (g+4) (g+2)++[P2 t j 0 (g+6)])
def y9(a b t:Pc)(k g j i:Int):Fr Lo:=(Pr [Qw (g+2) b i 0,cK (g+3) 0]).cat ((Rs j k (Pr (timesB a t g j))).cat (Pr (topL t k g++[P2 t (-1) k (g+7),P2 t (-1) (k+1) (g+8)])))
def downB(n t:Pc)(g j:Int):List Lo:=[Qw (g+4) n j 1,Qw (g+7) t j 1]++(sumL g (g+10) (g+4)++[P2 t j 0 (g+6)])
def downT(n t:Pc)(k g j:Int):Fr Lo:=(Pr ([Qw (g+7) t (-1) 0,Rr (g+5) (g+10) (g+7) (g+1),Qw (g+4) n (-1) 0,cK (g+3) 0]++sumL g (g+10) (g+4))).cat
 ((Rs j (k-1) (Pr (downB n t g j))).cat (Pr (topL t k g++[P2 t (-1) (k-1) (g+7),Qw (g+7) t (-1) (k+1),Pd 3 (g+7) (g+7) (g+8),P2 t (-1) k (g+7)])))
def lessB(n t:Pc)(g j:Int):List Lo:=[Qw (g+7) t j 0,Qw (g+4) n j 0,Py 12 (g+6) (g+8) (g+7) (g+4) (g+8)]
def wu(n t:Pc)(k g j:Int)(x:List Lo):Fr Lo:=(Pr [cK (g+8) 0]).cat (Rs j k (Pr (lessB n t g j++x)))
def lastT(d n t:Pc)(k g j:Int):Fr Lo:=(wu n t k g j []).cat ((Pr [Qw (g+7) t (-1) k,Py 12 (g+6) (g+10) (g+7) g (g+8)]).cat (wu n t k g j [lu (g+6) (g+10) (g+7) (g+6),P2 d j 0 (g+6)]))
def Vx(p:Pc)(a g:Int):Fr Lo:=Rs g p.size (Pr [P2 p g 0 a])
def intoT(d a b n t:Pc)(k g j:Int):Fr Lo:=(Pr ([cK g 0,Qw (g+10) n (-1) 0]++reckL (g+10) (g+1))).cat ((Vx t g j).cat ((Rs j k ((y9 a b t k g (j+1) j).cat (downT n t k g (j+1)))).cat (lastT d n t k g j)))
end
section
def vl(f:Nat→UInt64):Nat→Nat
 |0=>0
 |n+1=>vl f n+(f n).toNat*18446744073709551616^n
def Yu(f:Nat→UInt64):∀n,vl f n<18446744073709551616^n
 |0=>by simp[vl]
 |n+1=>by
  have h:=Yu f n;have g:(f n).toNat+1≤18446744073709551616:=(f n).toNat_lt;have j:=Ki (18446744073709551616^n) g;rw[Ku,Oe]at j;rw[vl,Mv,Mo (18446744073709551616^n)];omega
def Zh{f g:Nat→UInt64}:∀{n:Nat},(∀i,i<n→f i=g i)→vl f n=vl g n
 |0,_=>rfl
 |n+1,h=>by rw[vl,vl,Zh λi hi=>h i J,h n J]
def dc(f:Nat→UInt64):∀n,vl f (n+1)=(f 0).toNat+18446744073709551616*vl (λi=>f (i+1)) n
 |0=>by simp[vl]
 |n+1=>by
  rw[vl,dc f n,vl,Mv]
  grind
structure Pn where
 b:Nat
 a:Nat
 k:Nat
def Pn.p(p:Pn):Pc:=⟨p.b,p.a,p.k⟩
def pl(m:Nat→Nat→UInt64)(p:Pn)(i:Nat):UInt64:=m p.b (p.a+i)
def Dj(p q:Pn):Prop:=p.b≠q.b∨p.a+p.k≤q.a∨q.a+q.k≤p.a
def Qb(p:Pn)(m g:Nat→Nat→UInt64):Prop:=∀x y,¬(x=p.b∧p.a≤y∧y<p.a+p.k)→g x y=m x y
def Qb.trans{p:Pn}{m m' gg:Nat→Nat→UInt64}(h:Qb p m m')(k:Qb p m' gg):Qb p m gg:=λx y hn=>(k x y hn).trans (h x y hn)
def Qb.pl{p q:Pn}{m m':Nat→Nat→UInt64}(h:Qb p m m')(d:Dj p q){i:Nat}(hi:i<q.k):pl m' q i=pl m q i :=
 h _ _ λ⟨h1,h2,h3⟩=>by
  rcases d with d|d|d
  ·exact d h1.symm
  ·omega
  ·omega
def Qb.vl{p q:Pn}{m m':Nat→Nat→UInt64}(h:Qb p m m')(d:Dj p q){n:Nat}(hn:n≤q.k):vl (Go.Sv.pl m' q) n=vl (Go.Sv.pl m q) n:=Zh λ_ hi=>h.pl d J
def za0{p:Pn}{s:Fs}{i:Nat}{v:UInt64}(h:i<p.k):Qb p s.m (s.sto p.b (p.a+i) v).m:=λx y g=>by
 rw[zw9,J2];rintro⟨rfl,rfl⟩;exact g ⟨rfl,J,J⟩
def ue(p:Pn)(s:Fs)(i j:Nat)(v:UInt64):pl (s.sto p.b (p.a+i) v).m p j=if j=i then v else pl s.m p j:=by
 unfold pl;rw[zw9];by_cases h:j=i
 ·subst h;simp
 ·rw[J2 J,J2 h]
def zjf{j:Nat}(h:j<18446744073709551616):(UInt64.ofNat j).toNat=j:=Ab
def cp{p:Pn}{x:UInt64}(h:p.a+g+x.toNat<18446744073709551616):(iU (p.p.at_+(g:Int))+x).toNat=p.a+g+x.toNat:=by
 have:p.p.at_+(g:Int)=((p.a+g:Nat):Int):=Gf
 rw[this,Md,qx J,Kt Ar]
def tn{p:Pn}(h:p.a+g<18446744073709551616):(iU (p.p.at_+(g:Int))).toNat=p.a+g:=by
 have:p.p.at_+(g:Int)=((p.a+g:Nat):Int):=Gf
 rw[this,qx h]
section ls
variable {sz : Nat → Nat} {s : Fs} {p : Pn}
def zqc{d i:Nat}(h:p.a+g+(s.r i).toNat<sz p.b)(j:sz p.b≤65536):S9 sz (Qw d p.p i g) s=some (s.put d (pl s.m p (g+(s.r i).toNat))):=by
 rw[zf (b:=p.b) (n:=p.a+g+(s.r i).toNat) rfl (cp J) h];unfold pl;rw[Ly]
def zkq{v i off:Nat}(h:p.a+off+(s.r i).toNat<sz p.b)(g:sz p.b≤65536):S9 sz (P2 p.p i off v) s=some (s.sto p.b (p.a+(off+(s.r i).toNat)) (s.r v)):=by
 rw[zk (b:=p.b) (n:=p.a+off+(s.r i).toNat) rfl (cp J) h,Ly]
def st_no{v off:Nat}(h:p.a+off<sz p.b)(g:sz p.b≤65536):S9 sz (P2 p.p (-1) off v) s=some (s.sto p.b (p.a+off) (s.r v)):=by
 rw[mj (b:=p.b) (n:=p.a+off) rfl (tn J) h]
end ls
end
variable{X uZ:Pn}
section
def zqn(b:Bool):(Qh b).toNat=b.toNat:=by cases b<;>rfl
def cw(b:Bool):decide (Qh b%2=1)=b:=by cases b<;>decide
def ng{x y w m:UInt64}{hi p q j:UInt64}{g:Bool}(B:hi=Uf x y)(C:U=x*y)(D:Ow U w false=(p,K))(E:Ow p m false=(q,g))(F:vB=hi+Qh K)(G:j=vB+Qh g) :
  q.toNat+18446744073709551616*j.toNat=x.toNat*y.toNat+w.toNat+m.toNat:=by
 have L:=zmb x y;have z:=yi U w false;have A:=yi p m false;rw[D]at z;rw[E]at A;subst B C F G;simp only[Bool.toNat_false,M8]at z A;have M:x.toNat*y.toNat≤18446744073709551615*18446744073709551615:=Lw (by have:=x.toNat_lt;omega) (by have:=y.toNat_lt;omega);have O:=w.toNat_lt;have P:=m.toNat_lt;have Q:=q.toNat_lt;have R:K.toNat≤1:=by cases K<;>decide
 have d2:g.toNat≤1:=by cases g<;>decide
 have H:((Uf x y)+Qh K).toNat=(Uf x y).toNat+K.toNat:=by
  rw[Md,zqn,Kt];omega
 have I:((Uf x y)+Qh K+Qh g).toNat=(Uf x y).toNat+K.toNat+g.toNat:=by
  rw[Md,H,zqn,Kt];omega
 rw[I];omega
section mu
variable {sz : Nat → Nat}
def Zz(f:Nat→UInt64)(n:Nat):vl f (n+1)=vl f n+(f n).toNat*18446744073709551616^n:=rfl
def Tx.lp{s:Fs}{d n:Nat}{b:Fr Lo}{Q:Fs→Prop}(gg:Nat→Fs→Prop)(h0:gg 0 s)(hn:n<18446744073709551616)(h1:∀i s,i<n→gg i s→Tx sz b (s.put d (UInt64.ofNat i)) (gg (i+1)))(h2:∀s',gg n s'→Q s'):Tx sz (Rs (d:Nat) (n:Nat) b) s Q:=by
 unfold Rs;have e:(Xx (d:Nat) (n:Nat)).imm.toNat=n:=qx hn;split
 ·have:n=0:=J
  subst this;exact .nil (h2 _ h0)
 ·refine .loop gg h0 (λi s hi I=>?_) λs' I=>.nil (h2 _ ?_)
  ·rw[e]at hi;exact h1 i s hi I
  ·rw[e]at I;exact I
def Pn.in_(sz:Nat→Nat)(p:Pn):Prop:=p.a+p.k≤sz p.b∧sz p.b≤65536
def cd(p q:Pn):Prop:=Dj p q∨(p.b=q.b∧p.a=q.a)
def cd.sto{d n:Pn}{s:Fs}{v:UInt64}{i j:Nat}(h:cd d n)(hj:j<d.k)(hi:i<n.k)(gg:i≠j):pl (s.sto d.b (d.a+j) v).m n i=pl s.m n i:=by
 rcases h with h|⟨e1,e2⟩
 ·exact (za0 hj).pl h hi
 ·unfold pl;rw[zw9,J2 J]
def pu{s:Fs}{a:Nat}{p:Pn}(G:p.in_ sz)(C:a≠g):Tx sz (Vx p.p a g) s λB=>(∀A,A≠g→B.r A=s.r A)∧Qb p s.m B.m∧∀i,i<p.k→pl B.m p i=s.r a:=by
 have e:Vx p.p a g=Rs (g:Nat) (p.k:Nat) (Pr [P2 p.p (g:Nat) ((0:Nat):Int) (a:Nat)]):=rfl;rw[e];obtain⟨L,H⟩:=G;refine .lp (λF z=>(∀A,A≠g→z.r A=s.r A)∧Qb p s.m z.m∧∀i,i<F→pl z.m p i=s.r a) ⟨λ_ _=>rfl,λ_ _ _=>rfl,λ_ h=>absurd h J⟩ J (λF z M ⟨D,I,K⟩=>?_) λ_ h=>h
 have j:((z.put g (UInt64.ofNat F)).r g).toNat=F:=by simp[R7];omega
 refine .op (zkq (by rw[j];omega) H) (.nil ⟨λA E=>?_,?_,λi hi=>?_⟩)
 ·rw[znq,R7,J2 E,D A E]
 ·exact I.trans (za0 (p:=p) (s:=z.put _ _) (by rw[j];omega))
 ·rw[ue,j];split
  ·rw[R7,J2 C,D a C]
  ·rw[zrv];exact K i J
end mu
end
noncomputable section
def X4(g:List Bf)(m:List Bool)(o:Lo):Bool:=if o.kind=16 then false else if o.kind=14 then (Oy g o.buf.toNat).sec else (P3 o).any (P9 m)
def mkS(g:List Bf)(o:Lo):List Int→List Bool×Bool→List Bool×Bool
 |[],s=>s
 |r::j,s=>mkS g o j (if (!P9 s.1 r&&X4 g s.1 o)=true then (s.1.set r.toNat true,true) else s)
def Yx(g:List Bf):List Lo→List Bool×Bool→List Bool×Bool
 |[],s=>s
 |o::j,s=>Yx g j (mkS g o (O7 o) s)
def W5(g:List Bf)(os:List Lo):Nat→List Bool→List Bool
 |0,m=>m
 |n+1,m=>if (Yx g os (m,false)).2=true then W5 g os n (Yx g os (m,false)).1 else (Yx g os (m,false)).1
def Uh(m:List Bool):Nat:=m.countP (λb=>!b)
def bu{m:List Bool}{n:Nat}(h:n<m.length)(k:m.getD n false=false):Uh (m.set n true)+1=Uh m:=by
 induction m generalizing n with
 |nil=>simp at h
 |cons b m g =>
  cases n with
  |zero=>simp at k;subst k;simp[Uh]
  |succ n =>
   have:=g (n:=n) Ar (by simpa using k);simp only[Uh,List.set_cons_succ,List.countP_cons]at *;omega
def zod(g:List Bf)(o:Lo):∀(l:List Int) (s:List Bool×Bool),(mkS g o l s).1.length=s.1.length
 |[],_=>rfl
 |r::l,s=>by rw[mkS,zod g o l];split<;>simp
def zlk(j:List Bf):∀(g:List Lo) (s:List Bool×Bool),(Yx j g s).1.length=s.1.length
 |[],_=>rfl
 |o::g,s=>by rw[Yx,zlk j g,zod]
def Dn(s s':List Bool×Bool):Prop:=Uh s'.1≤Uh s.1∧(s'.2=true→s.2=true∨Uh s'.1<Uh s.1)
def Dn.trans{s s' gg:List Bool×Bool}(h:Dn s s')(k:Dn s' gg):Dn s gg:=by
 refine⟨by have:=h.1;have:=k.1;omega,λh2=>?_⟩;rcases k.2 h2 with q|q
 ·rcases h.2 q with q|q
  ·exact .inl q
  ·have:=k.1;exact .inr J
 ·have:=h.1;exact .inr J
def zwm(g:List Bf)(o:Lo):∀(l:List Int) (s:List Bool×Bool),(∀x∈l,0≤x∧x<s.1.length)→Dn s (mkS g o l s)
 |[],s,_=>⟨J4 _,λh=>.inl h⟩
 |r::l,s,h=>by
  rw[mkS];obtain⟨A,B⟩:=h r (Kx ..);split
  ·rename_i z;simp only[Jz,L9]at z;have C:=bu (m:=s.1) (n:=r.toNat) J z.1;refine Dn.trans (s':=(s.1.set r.toNat true,true)) ⟨by simp only;omega,λ_=>.inr (by simp only;omega)⟩ (zwm g o l _ λx j=>?_);simpa using h x (Kl _ j)
  ·exact zwm g o l _ λx j=>h x (Kl _ j)
def zqg(g:List Bf):∀(os:List Lo) (s:List Bool×Bool),(∀o∈os,∀x∈O7 o,0≤x∧x<s.1.length)→Dn s (Yx g os s)
 |[],s,_=>⟨J4 _,λh=>.inl h⟩
 |o::os,s,h=>by
  rw[Yx];refine Dn.trans (zwm g o _ s λx j=>h o (Kx ..) x j) (zqg g os _ λp z x j=>?_);rw[zod];exact h p (Kl _ z) x j
def Xc(m:List Bool)(g:Int→Bool):Prop:=∀x,0≤x→P9 m x=true→g x=true
def Vm(g:List Bf)(j:Int→Bool)(o:Lo):Bool:=if o.kind=16 then false else if o.kind=14 then (Oy g o.buf.toNat).sec else (P3 o).any j
def zwz(g:List Bf)(z:Int→Bool)(j:List Lo):Prop:=∀o∈j,Vm g z o=true→∀x∈O7 o,z x=true
def Xc.sec{C:List Bf}{m:List Bool}{gg:Int→Bool}{o:Lo}(h:Xc m gg)(ht:∀x∈P3 o,0≤x)(k:X4 C m o=true):Vm C gg o=true:=by
 unfold X4 at k;unfold Vm;split
 ·rename_i q;rw[J8 q]at k;exact k
 ·rename_i q;rw[J2 q]at k;split
  ·rename_i q;rw[J8 q]at k;exact k
  ·rename_i q;rw[J2 q,K5]at k;obtain⟨x,hx,hk⟩:=k;exact K5.2 ⟨x,hx,h x (ht x hx) hk⟩
def Xc.set{m:List Bool}{C:Int→Bool}{r:Int}(h:Xc m C)(h0:0≤r)(k:C r=true):Xc (m.set r.toNat true) C:=λx hx hm=>by
 by_cases e:x=r
 ·rw[e];exact k
 ·refine h x hx ?_;unfold P9 at hm ⊢;rw[J0,Jy J]at hm;rw[J0];exact hm
def zwi{g:List Bf}{B:Int→Bool}{o:Lo}(j:∀x∈P3 o,0≤x)(z:Vm g B o=true→∀x∈O7 o,B x=true):∀(l:List Int) (s:List Bool×Bool),(∀x∈l,x∈O7 o∧0≤x)→Xc s.1 B→Xc (mkS g o l s).1 B
 |[],_,_,h=>h
 |r::l,s,A,h=>by
  rw[mkS];refine zwi j z l _ (λx C=>A x (Kl _ C)) ?_;split
  ·rename_i q;simp only[Jz]at q;obtain⟨D,E⟩:=A r (Kx ..);exact h.set E (z (h.sec j q.2) r D)
  ·exact h
def zh2{z:List Bf}{D:Int→Bool}:∀(g:List Lo) (s:List Bool×Bool),(∀o∈g,∀x∈P3 o,0≤x)→(∀o∈g,∀x∈O7 o,0≤x)→zwz z D g→Xc s.1 D→Xc (Yx z g s).1 D
 |[],_,_,_,_,h=>h
 |o::g,s,A,hm,B,h=>by
  rw[Yx];exact zh2 g _ (λp j=>A p (Kl _ j)) (λp j=>hm p (Kl _ j)) (λp j=>B p (Kl _ j)) (zwi (A o (Kx ..)) (B o (Kx ..)) _ _ (λx C=>⟨C,hm o (Kx ..) x C⟩) h)
def zpx{A:List Bf}{B:Int→Bool}{g:List Lo}(j:∀o∈g,∀x∈P3 o,0≤x)(hm:∀o∈g,∀x∈O7 o,0≤x)(z:zwz A B g):∀(n:Nat) (m:List Bool),Xc m B→Xc (W5 A g n m) B
 |0,_,h=>h
 |n+1,m,h=>by
  rw[W5];split
  ·exact zpx j hm z n _ (zh2 g _ j hm z h)
  ·exact zh2 g _ j hm z h
def zpl(g:List Bf)(j:List Lo):∀(n:Nat) (m:List Bool),(W5 g j n m).length=m.length
 |0,_=>rfl
 |n+1,m=>by rw[W5];split<;>simp[zpl g j n,zlk]
def Xc.none(n:Nat)(C:Int→Bool):Xc (List.replicate n false) C:=λx _ h=>by
 unfold P9 at h;rw[J0,List.getElem?_replicate]at h;split at h<;>simp at h
def Xv(g:Int)(j:List Bf)(os:List Lo):List Bool:=W5 j os (g.toNat+1) (List.replicate g.toNat false)
def ao(g:List Bf)(j:Int→Bool)(o:Lo):Bool:=!((Qd o.kind&&decide (0≤o.a))&&j o.a)&&(!(decide (o.kind=15)&&(j o.b && !(Oy g o.buf.toNat).sec)) && !(decide (o.kind=16)&&j o.d))
def aw{m:List Bool}{C:Int→Bool}{o:Lo}(D:Xc m C)(E:o.kind=15→0≤o.b)(hd:o.kind=16→0≤o.d)(h:ao T C o=true):ao T (P9 m) o=true:=by
 unfold ao at h ⊢;simp only[Jz,L9,Bool.and_eq_false_iff,Le,Bool.not_eq_false']at h ⊢;have g:∀x,0≤x→C x=false→P9 m x=false:=λx F B=>by
  cases q:P9 m x
  ·rfl
  ·rw[D x F q]at B;exact absurd B Ac
 obtain⟨z,j,A⟩:=h;refine⟨?_,?_,?_⟩
 ·by_cases q:0≤o.a
  ·rcases z with z|z
   ·exact .inl z
   ·exact .inr (g _ q z)
  ·exact .inl (.inr q)
 ·by_cases q:o.kind=15
  ·rcases j with j|j|j
   ·exact absurd q j
   ·exact .inr (.inl (g _ (E q) j))
   ·exact .inr (.inr j)
  ·exact .inl q
 ·by_cases q:o.kind=16
  ·rcases A with A|A
   ·exact absurd q A
   ·exact .inr (g _ (hd q) A)
  ·exact .inl q
end
section
def Wp(ls:List Int)(m:List Bool):Prop:=∀x,0≤x→x<8→(P9 m x=true↔x∈ls)
def Gd(bs:List Bf)(S:List Int)(ls:List Int)(f:Fr Lo)(S':List Int):Prop :=
 ∀m,Zq 64 m S→Wp ls m→∃z,Zq 64 z S'∧Wp ls z∧(∀x,8≤x→P9 m x=true→P9 z x=true)∧∀i j,Yy 64 bs i m ls (f.flat++j)=Yy 64 bs (i+f.flat.length) z ls j
def zlj{x:Int}(z:0≤x):∀(j:List Int) (m:List Bool),(∀y∈j,0≤y∧y<m.length)→P9 m x=true→P9 (j.foldl (λm r=>m.set r.toNat true) m) x=true
 |[],_,_,h=>h
 |a::j,m,A,h=>by
  have B:=A a (Kx ..);exact zlj z j _ (λy C=>by rw[L7];exact A y (Kl _ C)) ((z7g ⟨B.1,B.2⟩ z).2 (.inr h))
section gd
variable {bs : List Bf} {S S' S2 ls : List Int} {f g : Fr Lo}
def Zq.sub{regs:Int}{m:List Bool}(h:Zq regs m S)(k:∀x∈S',x∈S):Zq regs m S':=⟨h.1,λx hx=>h.2 x (k x hx)⟩
def Gd.mono(h:Gd bs S ls f S')(k1:∀x∈S,x∈S2){S3:List Int}(k2:∀x∈S3,x∈S'):Gd bs S2 ls f S3:=λm hm hi=>by
 obtain⟨m',h1,h2,hk,h3⟩:=h m (hm.sub k1) hi;exact⟨m',h1.sub k2,h2,hk,h3⟩
def Gd.cat(h:Gd bs S ls f S')(k:Gd bs S' ls g S2):Gd bs S ls (f.cat g) S2:=λm hm hi=>by
 obtain⟨m1,h1,h2,ha,h3⟩:=h m hm hi;obtain⟨m2,k1,k2,kb,k3⟩:=k m1 h1 h2;refine⟨m2,k1,k2,λx hx hq=>kb x hx (ha x hx hq),λi rest=>?_⟩;rw[T1,Kz,h3,k3,J7,Ly]
def Gd.nil:Gd bs S ls .nil S:=λm hm hi=>⟨m,hm,hi,λ_ _ h=>h,λ_ _=>rfl⟩
def Wp.fold:∀(mk:List Int) (m:List Bool),m.length=64→Wp ls m→(∀x∈mk,8≤x∧x<64)→Wp ls (mk.foldl (λm r=>m.set r.toNat true) m)
 |[],_,_,h,_=>h
 |a::mk,m,hl,h,hr=>by
  have ha:=hr a (Kx ..);refine Wp.fold mk _ (by simpa using hl) (λx h0 h8=>?_) λx hx=>hr x (Kl _ hx)
  rw[←h x h0 h8,z7g ⟨J,J⟩ h0];constructor
  ·rintro (q|q)
   ·omega
   ·exact q
  ·exact .inr
def Gd.L(gA:∀x∈ls,x<8):∀{l:List Lo} {S:List Int},Th 64 bs S l→(∀o∈l,∀x∈O7 o,8≤x)→Gd bs S ls (Pr l) ((l.flatMap O7)++S)
 |[],S,_,_=>λm hm hi=>⟨m,Fu,hi,λ_ _ h=>h,λ_ _=>rfl⟩
 |o::l,S,h,hk=>λm hm hi=>by
  obtain⟨h1,⟨h2,h3⟩,h4,h5⟩:=h;have gg:=zpi h1;have gB:=hk o (Kx ..);have hs:=i9 (m:=m) (ls:=ls) h1 h2 h3 (λx hx q=>by have:=gA x q;have:=gB x hx;omega) (λx hx=>(hm.2 x (h4 x hx)).2.2);have gC:=hm.fold (O7 o) m S gg;have gD:=hi.fold (O7 o) m (by have:=hm.1;omega) λx hx=>⟨gB x hx,(gg x hx).2⟩
  obtain⟨m',k1,k2,kk,k3⟩:=Gd.L gA h5 (λp hp=>hk p (Kl _ hp)) _ gC gD;refine⟨m',k1.sub λx hx=>?_,k2,λx hx hq=>kk x hx (zlj J _ _ (λy hy=>by have:=gg y hy;have:=hm.1;omega) hq),λi rest=>?_⟩
  ·simp only[Nn,Ks]at hx ⊢;rcases hx with (hx|hx)|hx
   ·exact .inr (.inl hx)
   ·exact .inl hx
   ·exact .inr (.inr hx)
  ·rw[Pr,Fr.flat,K2,Yy,hs];dsimp only;rw[J8 rfl,k3,Kn]
   congr 1;omega
def zwe{d:Int}(h:0≤d∧d<64)(C:1≤z∧z≤1048576):Rj 64 bs (Xx d z)=true:=by
 have j:(iU z).toNat=z.toNat:=by
  obtain⟨n,rfl⟩:=J3 (J:0≤z);rw[qx J];rfl
 have A:(1:UInt64)≤iU z:=by rw[Mu,j];show 1≤_;omega
 have B:iU z≤(1048576:UInt64):=by rw[Mu,j];show _≤1048576;omega
 simp[Rj,Xx,Sa,R4,R2,Sm,Xj,Xf,Qd,h,A,B]
def fields_En:Rj 64 bs Vu=true:=by simp[Rj,Vu,Sa,R4,R2,Sm,Xj,Xf,Qd]
def zgi{m:List Bool}{a x:Int}(j:0≤a∧a<m.length)(z:0≤x):P9 (m.set a.toNat false) x=true↔x≠a∧P9 m x=true:=by
 unfold P9;rw[jy _ _ _ _ _ J];by_cases e:x.toNat=a.toNat
 ·rw[J8 e];simp;intro h;omega
 ·rw[J2 e];constructor
  ·exact λh=>⟨by rintro rfl;exact e rfl,h⟩
  ·exact λh=>h.2
def Gd.loop{d times:Int}{b r:Fr Lo}{S3:List Int}(gI:ls.length<8)(hd:0≤d∧d<8)(hn:¬d∈ls)(ht:1≤times∧times≤1048576)(hb:Gd bs (d::S) (ls++[d]) b S')(hs:∀x∈S2,x∈S'∧x≠d)(hr:Gd bs S2 ls r S3):Gd bs S ls (.loop (Xx d times) b Vu r) S3:=λm hm hi=>by
 have gH:m.length=64:=by have:=hm.1;omega
 have gg:P9 m d=false:=by
  cases q:P9 m d
  ·rfl
  ·exact absurd ((hi d hd.1 hd.2).1 q) hn
 have gA:Vn 64 bs m ls (Xx d times)=(0,m.set d.toNat true,ls++[d]):=by
  unfold Vn;rw[J2 (by rw[zwe J ht];decide),J2 (by simp[Xx]),J2,J2 (by simp[Xx,gg]),J2 (by simp[Xx];omega),J2 (by simp[Xx,P3])]
  ·simp[Xx,O7]
  ·simp[Xx,O7,hn]
 have gB:Zq 64 (m.set d.toNat true) (d::S):=by
  have:=hm.fold [d] m S (λx hx=>by simp at hx;omega);simpa using this
 have gC:Wp (ls++[d]) (m.set d.toNat true):=λx h0 h8=>by
  rw[z7g ⟨J,J⟩ h0,hi x h0 h8];simp[or_comm]
 obtain⟨m2,a1,a2,ak,a3⟩:=hb _ gB gC;have gK:m2.length=64:=by have:=a1.1;omega
 have gD:Zq 64 (m2.set d.toNat false) S2:=⟨by simpa using a1.1,λx hx=>by
  obtain⟨h1,h2⟩:=hs x hx;obtain⟨b1,b2,b3⟩:=a1.2 x h1;exact⟨b1,b2,(zgi ⟨J,J⟩ b1).2 ⟨h2,b3⟩⟩⟩
 have gF:Wp ls (m2.set d.toNat false):=λx h0 h8=>by
  rw[zgi ⟨J,J⟩ h0,a2 x h0 h8];simp only[Ks,List.mem_singleton];constructor
  ·rintro⟨h1,h2|h2⟩
   ·exact h2
   ·exact absurd h2 h1
  ·exact λh=>⟨λq=>hn (q ▸ h),.inl h⟩
 obtain⟨m4,c1,c2,ck,c3⟩:=hr _ gD gF;refine⟨m4,c1,c2,λx hx hq=>ck x hx ((zgi ⟨J,J⟩ J).2 ⟨J,ak x hx ((z7g ⟨J,J⟩ J).2 (.inr hq))⟩),λi rest=>?_⟩;have gG:Vn 64 bs m2 (ls++[d]) Vu=(0,m2.set d.toNat false,ls):=by
  unfold Vn;rw[J2 (by rw[fields_En];decide),J8 (by rfl)];simp
 rw[Fr.flat,K2,Yy,gA];dsimp only;rw[J8 rfl,Kz,a3,K2,Yy,gG];dsimp only;rw[J8 rfl,c3,Kn,J7,Kn]
 congr 1;omega
def Gd.lp{d times:Int}{b:Fr Lo}(gg:ls.length<8)(hd:0≤d∧d<8)(hn:¬d∈ls)(gA:¬d∈S)(ht:times≤1048576)(hb:Gd bs (d::S) (ls++[d]) b S')(hs:∀x∈S,x∈S'):Gd bs S ls (Rs d times b) S:=by
 unfold Rs;split
 ·exact .nil
 ·exact .loop gg hd hn J hb (λx hx=>⟨hs x hx,λq=>gA (q ▸ hx)⟩) .nil
def sd(C:bs.length≤32)(D:f.flat.length≤65536)(A:∀b∈bs,1≤b.size∧b.size≤65536∧1≤b.kind∧b.kind≤3)(h:Gd bs [] [] f S'):R8 64 bs f.flat=((f.flat.length:Int),0):=by
 unfold R8;rw[J2 J,J2,J2 J,J2]
 ·obtain⟨E,_,_,_,B⟩:=h (List.replicate 64 false) ⟨N,N⟩ (λx F G=>by
   unfold P9;rw[J0,List.getElem?_replicate];split<;>simp)
  have:=B 0 [];rw[Lf]at this;rw[show (64:Int).toNat=64 from rfl,this,Yy,J8 rfl,Kw]
 ·rw[K5];rintro⟨b,j,z⟩;have:=A b j;simp at z;omega
 ·rw[K5];rintro⟨b,j,z⟩;have:=A b j;simp at z;omega
end gd
end
section
section w
variable {bs : List Bf} {S : List Int} {l : List Lo}
def i0{d:Int}{v:UInt64}(h:0≤d∧d<64)(k:Th 64 bs (d::S) l):Th 64 bs S (cK d v::l):=⟨gu h,by simp[cK],by simp[P3,cK],k⟩
def mb{d e a b:Int}(h:0≤d∧d<64)(he:0≤e∧e<64)(g:0≤a∧a<64)(j:0≤b∧b<64)(z:d≠e)(A:a∈S)(B:b∈S)(k:Th 64 bs (d::e::S) l):Th 64 bs S (Rr d e a b::l) :=
 ⟨zsg h he g j z,by simp[Rr],by simp[P3,Rr,A,B],k⟩
def zok{d a b:Int}(j:3≤z∧z≤7)(h:0≤d∧d<64)(A:0≤a∧a<64)(B:0≤b∧b<64)(C:a∈S)(E:b∈S)(k:Th 64 bs (d::S) l):Th 64 bs S (Pd z d a b::l):=by
 refine⟨zsp j h A B,Fy,λx g=>?_,?_⟩
 ·unfold P3 Pd at g;simp only at g;rw[J2 J,J8 J]at g;simp at g;rcases g with rfl|rfl
  ·exact C
  ·exact E
 ·have:O7 (Pd z d a b)=[d]:=by unfold O7 Pd;simp only;rw[J2 J,J2 J]
  rw[this];exact k
def zpb{d e a b c:Int}(g:z=11∨z=12)(h:0≤d∧d<64)(he:0≤e∧e<64)(j:0≤a∧a<64)(A:0≤b∧b<64)(B:0≤c∧c<64)(C:d≠e)(E:a∈S)(F:b∈S)(G:c∈S)(k:Th 64 bs (d::e::S) l):Th 64 bs S (Py z d e a b c::l):=by
 refine⟨zsq g h he j A B C,by rcases g with rfl|rfl<;>simp[Py],?_,?_⟩
 ·rcases g with rfl|rfl<;>simp[P3,Py,E,F,G]
 ·rcases g with rfl|rfl<;>exact k
structure Bp (bs:List Bf) (p:Pn):Prop where
 b:p.b<bs.length
 s:((p.a+p.k:Nat):Int)≤(Oy bs p.b).size
 z:(Oy bs p.b).size≤65536
def Bw(bs:List Bf)(p:Pn):Prop:=(Oy bs p.b).kind≠1
def Bp.at{p:Pn}(h:Bp bs p){off:Int}(h0:0≤off)(hk:off<p.k):iU (p.p.at_+off)<iU (Oy bs p.p.buf.toNat).size:=by
 obtain⟨o,rfl⟩:=J3 h0;have hs:=h.s;have hz:=h.z;obtain⟨z,gg⟩:=J3 (J:0≤(Oy bs p.b).size);have e1:p.p.buf.toNat=p.b:=rfl;rw[e1,gg,Lu,qx J,tn J];omega
def zjj{d i:Int}{p:Pn}(g:Bp bs p)(h:0≤d∧d<64)(hi:0≤i∧i<64)(j:i∈S)(k:Th 64 bs (d::S) l):Th 64 bs S (Qw d p.p i z::l):=by
 refine⟨zu0 h (.inr hi) ⟨Gf,Dm⟩ (λq=>J),by simp[Qw],?_,k⟩;have:i≠-1:=J
 simp[P3,Qw,this,j]
def zfy{v i:Int}{p:Pn}(g:Bp bs p)(hw:Bw bs p)(h:0≤v∧v<64)(hi:0≤i∧i<64)(j:i∈S)(A:v∈S)(k:Th 64 bs S l):Th 64 bs S (P2 p.p i z v::l):=by
 refine⟨zms h (.inr hi) ⟨Gf,Dm⟩ hw (λq=>J),by simp[P2],?_,k⟩;have:i≠-1:=J
 simp[P3,P2,this,j,A]
def qz{v:Int}{p:Pn}(g:Bp bs p)(hw:Bw bs p)(h:0≤v∧v<64)(j:0≤z)(A:z<p.k)(B:v∈S)(k:Th 64 bs S l):Th 64 bs S (P2 p.p (-1) z v::l):=by
 refine⟨zms h (.inl rfl) ⟨Gf,Dm⟩ hw (λ_=>g.at j A),by simp[P2],by simp[P3,P2,B],k⟩
def okL_nil:Th 64 bs S []:=trivial
end w
section into
variable {bs : List Bf} {ls : List Int} {R D : Int} {d a b n t : Pn} {k : Int}
def rf{x:Int}{S:List Int}{p:Pn}(C:0≤x∧x<64)(E:x∈S)(F:0≤D∧D<8)(G:¬D∈ls)(j:¬D∈S)(z:ls.length<8)(A:∀x∈ls,x<8)(B:Bp bs p)(wp:Bw bs p):Gd bs S ls (Vx p.p x D) S:=by
 have H:(p.k:Int)≤65536:=by have:=B.s;have:=B.z;omega
 unfold Vx;have h:Th 64 bs (D::S) [P2 p.p D 0 x]:=zfy B wp C J N Ak okL_nil;refine Gd.lp z F G j (by show (p.k:Int)≤_;omega) (Gd.L ?_ h ?_) ?_
 ·intro y g;rcases Ks.1 g with g|g
  ·exact A y g
  ·simp at g;omega
 ·simp[O7,P2]
 ·intro y g;exact Mj _ (Kl _ g)
end into
end
section
def rgR(R x:Int):Prop:=x=-1∨(R≤x∧x<R+14)
structure OpG (nb:Nat) (R lo hi:Int) (o:Lo):Prop where
 k:o.kind≠16∧o.kind≠17
 d:rgR R o.d
 e:rgR R o.e
 a:rgR R o.a∨(lo≤o.a∧o.a≤hi)
 b:rgR R o.b
 c:rgR R o.c
 m:(o.kind=14∨o.kind=15)→o.a=-1∨(lo≤o.a∧o.a≤hi)
 f:o.buf.toNat<nb
def LpG(g:Int)(o:Lo):Prop:=o.kind=16∧o.d=g∧o.e=-1∧o.a=-1∧o.b=-1∧o.c=-1∧1≤o.imm.toNat
section al
variable {nb : Nat} {R lo hi : Int}
def ln(x:Int):Bool:=decide (16≤x)
end al
end
section
section into
variable {nb : Nat} {R lo hi D k : Int} {d a b n t : Pn}
end into
def Sj:Nat→Int→List Lo
 |0,_=>[]
 |n+1,i=>⟨16,i,-1,-1,-1,-1,0,1⟩::Sj n (i+1)
end
def pi{f:Fr Lo}{bs:List Bf}{X:List (List UInt64)}{M:Fs→Prop}(A:f.wf Rt)(z:f.regs bs.length []=true)(B:f.costZ≤800000000)
  (F:Tx (lh (Rf 64 bs X)) f (Vg (Rf 64 bs X)) M) :
  ∃E j t,E≤800000000∧Qk f.flat (f.ends 0) E (Rf 64 bs X)=some j∧j.i=f.flat.length∧Rep bs.length (lh (Rf 64 bs X)) j t∧M t∧j.l.length≤f.costZ:=by
 have C:(Rf 64 bs X).r.length=64:=Dw
 have g:=Rep.abs (Rf 64 bs X) C;have D:(Rf 64 bs X).bufs.length=bs.length:=by simp[Rf,T9]
 rw[D]at g;obtain⟨t,G,H⟩:=F;obtain⟨E,j,I,K,_,L,O,P⟩:=zes (os:=f.flat) (es:=f.ends 0) f 0 [] [] [] (Rf 64 bs X) (Vg (Rf 64 bs X)) t A z N N rfl rfl g G;refine⟨E,j,t,J,I,by rw[K,Fr.flat_len,Kw],L,H,?_⟩;have:(Rf 64 bs X).l.length=0:=rfl;omega
def costZ_le:∀f:Fr Lo,f.costZ≤2*f.stp
 |.nil=>by simp[Fr.costZ]
 |.op _ r=>by have:=costZ_le r;rw[Fr.costZ,Fr.stp];omega
 |.loop o b _ r=>by
  have j:=costZ_le b;have z:=costZ_le r;have g:o.imm.toNat*(b.costZ+2)≤o.imm.toNat*(2*(1+b.stp)):=Nat.mul_le_mul_left _ J;rw[Nat.mul_left_comm]at g;rw[Fr.costZ,Fr.stp];omega
noncomputable def zta(l:List UInt64)(i:Nat):UInt64:=if l=[] then 0 else l.getD (i%l.length) 0*iU (1+((i/l.length:Nat):Int)*2)+iU ((i/l.length:Nat):Int)
noncomputable def zrf(l:List UInt64)(n:Nat):List UInt64:=(List.range n).map (zta l)
def zmv(l:List UInt64)(n:Nat):(zrf l n).length=n:=by simp[zrf]
section
def yj(d g:Int)(b:Fr Lo)(j:g≤1000000):(Rs d g b).stp≤g.toNat*(1+b.stp):=by
 unfold Rs;split
 ·simp[Fr.stp]
 ·obtain⟨n,rfl⟩:=J3 (J:0≤g);rw[Fr.stp,Fr.stp];have:(Xx d (n:Int)).imm.toNat=n:=qx J;rw[this];simp
section facts
variable {k y e r d : Nat}
end facts
end
def vl_get:∀{n:Nat} {f:Nat→UInt64} {l:List UInt64},l.length≤n→(∀i,i<n→f i=l.getD i 0)→vl f n=val l
 |0,f,l,h,_=>by
  have:l=[]:=Kk J;subst this;simp[vl,val]
 |n+1,f,l,h,g=>by
  rw[dc];cases l with
  |nil =>
   have j:=g 0 J;have z:=vl_get (n:=n) (f:=λi=>f (i+1)) (l:=[]) N (λi hi=>by have:=g (i+1) J;simpa using this);rw[z,j];simp[val]
  |cons x l =>
   have j:=g 0 J;have z:=vl_get (n:=n) (f:=λi=>f (i+1)) (l:=l) (by simp at h;omega) (λi hi=>by have:=g (i+1) J;simpa using this);rw[z,j];simp[val]
section
section facts
variable {k : Nat}
end facts
end
section
def S5(x:Int):Bool:=decide (x<16)
def lf(x:Int):Bool:=decide (x<0) || decide (16≤x)
def Wb(o:Lo):Bool :=
 if o.kind=16 then decide (0≤o.d)&&decide (o.d<16)
 else if o.kind=17 then true
 else if o.kind=14∨o.kind=15 then S5 o.a&&(lf o.d&&lf o.e)
 else (lf o.d&&lf o.e) || (S5 o.a&&(S5 o.b&&S5 o.c))
structure Lock (s t:Ms):Prop where
 i:s.i=t.i
 first:s.first=t.first
 l:s.l=t.l
 rs:s.r.length=64
 rt:t.r.length=64
 low:∀x,x<16→s.r.getD x 0=t.r.getD x 0
 bufs:s.bufs.map List.length=t.bufs.map List.length
section lock
variable {s t s' t' : Ms} {os : List Lo} {es : List Int}
def Lock.at(h:Lock s t){x:Int}(hx:S5 x=true):atR s.r x=atR t.r x:=by
 unfold S5 at hx;have hx:=M4 hx;unfold atR;by_cases q:x<0
 ·rw[J8 q,J8 q]
 ·rw[J2 q,J2 q];exact h.low _ J
def aa{r:List UInt64}{x:Int}{v:UInt64}(h:lf x=true){y:Nat}(g:y<16):(Ot r x v).getD y 0=r.getD y 0:=by
 unfold lf at h;simp only[K8,Kb]at h;unfold Ot;split
 ·simp only[J0];rw[Jy J]
 ·rfl
def zet{r q:List UInt64}{x:Int}{v:UInt64}(j:r.length=64)(z:q.length=64)(h:∀y,y<16→r.getD y 0=q.getD y 0):∀y,y<16→(Ot r x v).getD y 0=(Ot q x v).getD y 0:=λy g=>by
 unfold Ot;split
 ·by_cases A:x.toNat<64
  ·rw[jy _ _ _ _ _ J,jy _ _ _ _ _ J];split
   ·rfl
   ·exact h y g
  ·rw[List.set_eq_of_length_le J,List.set_eq_of_length_le J];exact h y g
 ·exact h y g
def Wj{r:List UInt64}{x:Int}{v:UInt64}(h:r.length=64):(Ot r x v).length=64:=by unfold Ot;split<;>simp[h]
def Lock.row(h:Lock s t)(x:Int):(Uu s.bufs x).length=(Uu t.bufs x).length:=by
 have hb:=congrArg (λl=>l.getD x.toNat 0) h.bufs;simp only[J0,Lr]at hb;unfold Uu;simp only[J0];cases h1:s.bufs[x.toNat]?<;>cases h2:t.bufs[x.toNat]?<;>simp[h1,h2]at hb ⊢<;>first|exact hb|skip
def Lock.step(h:Lock s t)(he:∀(i:Nat) (o p:Lo),os[i]?=some o→o.kind=17→os[(es.getD i 0).toNat]?=some p→p.kind=16)(ho:∀o∈os,Wb o=true)(hs:Si os es s=some s')(ht:Si os es t=some t'):Lock s' t':=by
 unfold Si at hs ht;rw[←h.i]at ht;cases gg:os[s.i]? with
 |none =>
  rw[gg]at hs ht;cases hs;cases ht;exact h
 |some o =>
 rw[gg]at hs ht;dsimp only at hs ht;have hl:=ho o (Kg gg);unfold Wb at hl;by_cases gF:o.kind=16
 ·rw[J8 gF]at hs ht hl;cases hs;cases ht;simp only[Jz,Kb]at hl;rw[←h.first];cases s.first
  ·exact⟨Fb,rfl,Ei,h.rs,h.rt,h.low,h.bufs⟩
  ·exact⟨Fb,rfl,Ei,Wj h.rs,Wj h.rt,zet h.rs h.rt h.low,h.bufs⟩
 rw[J2 gF]at hs ht hl;by_cases gC:o.kind=17
 ·rw[J8 gC]at hs ht;cases hp:os[(es.getD s.i 0).toNat]? with
  |none=>rw[hp]at hs;cases hs
  |some p =>
  rw[hp]at hs ht;dsimp only at hs ht;have kp:=he _ _ _ gg gC hp;have gD:=ho p (Kg hp);unfold Wb at gD;rw[J8 kp]at gD;simp only[Jz,Kb]at gD;rw[←h.at (x:=p.d) (by unfold S5;exact Ll J)]at ht;split at hs
  ·rename_i g;rw[J8 g]at ht;cases hs;cases ht;exact⟨rfl,rfl,h.l,Wj h.rs,Wj h.rt,zet h.rs h.rt h.low,h.bufs⟩
  ·rename_i g;rw[J2 g]at ht;cases hs;cases ht;exact⟨Fb,h.first,h.l,h.rs,h.rt,h.low,h.bufs⟩
 rw[J2 gC]at hs ht hl;unfold Vi at hs ht;by_cases gA:o.kind=14
 ·rw[J8 (.inl gA)]at hl;simp only[Jz]at hl;rw[J8 gA,←h.at hl.1,←h.row]at ht;rw[J8 gA]at hs;split at hs
  ·rename_i g;rw[J8 g]at ht;cases hs;cases ht;exact⟨Fb,h.first,Ei,Wj (Wj h.rs),Wj (Wj h.rt),λx hx=>Dc,h.bufs⟩
  ·cases hs
 rw[J2 gA]at hs ht;by_cases gB:o.kind=15
 ·rw[J8 (.inr gB)]at hl;simp only[Jz]at hl;rw[J8 gB,←h.at hl.1,←h.row]at ht;rw[J8 gB]at hs;split at hs
  ·rename_i g;rw[J8 g]at ht;cases hs;cases ht;refine⟨Fb,h.first,Ei,Wj (Wj h.rs),Wj (Wj h.rt),λx hx=>Dc,?_⟩;simp only[K9,L7];rw[h.row,h.bufs]
  ·cases hs
 rw[J2 gB]at hs ht;rw[J2 J]at hl;cases hs;cases ht;simp only[K8,Jz]at hl;refine⟨Fb,h.first,Ei,Wj (Wj h.rs),Wj (Wj h.rt),λx hx=>?_,h.bufs⟩;rcases hl with ⟨h1,h2⟩|⟨h1,h2,h3⟩
 ·show (Ot (Ot s.r o.d _) o.e _).getD x 0=(Ot (Ot t.r o.d _) o.e _).getD x 0;rw[aa h2 hx,aa h1 hx,aa h2 hx,aa h1 hx];exact h.low x hx
 ·show (Ot (Ot s.r o.d _) o.e _).getD x 0=(Ot (Ot t.r o.d _) o.e _).getD x 0;rw[h.at h1,h.at h2,h.at h3];exact zet (Wj h.rs) (Wj h.rt) (zet h.rs h.rt h.low) x hx
def Lock.step_some(h:Lock s t)(ho:∀o∈os,Wb o=true)(hs:Si os es s=some s'):∃t',Si os es t=some t':=by
 unfold Si at hs ⊢;rw[←h.i];cases gB:os[s.i]? with
 |none=>exact⟨_,rfl⟩
 |some o =>
 rw[gB]at hs;dsimp only at hs ⊢;have hl:=ho o (Kg gB);unfold Wb at hl;by_cases gC:o.kind=16
 ·rw[J8 gC];exact⟨_,rfl⟩
 rw[J2 gC]at hs hl ⊢;by_cases gD:o.kind=17
 ·rw[J8 gD]at hs ⊢;cases hp:os[(es.getD s.i 0).toNat]? with
  |none=>rw[hp]at hs;cases hs
  |some p =>
   dsimp only;split<;>exact⟨_,rfl⟩
 rw[J2 gD]at hs hl ⊢;unfold Vi at hs ⊢;by_cases gg:o.kind=14
 ·rw[J8 (.inl gg)]at hl;simp only[Jz]at hl;rw[J8 gg]at hs ⊢;rw[←h.at hl.1,←h.row];split at hs
  ·rename_i g;rw[J8 g];exact⟨_,rfl⟩
  ·cases hs
 rw[J2 gg]at hs ⊢;by_cases gA:o.kind=15
 ·rw[J8 (.inr gA)]at hl;simp only[Jz]at hl;rw[J8 gA]at hs ⊢;rw[←h.at hl.1,←h.row];split at hs
  ·rename_i g;rw[J8 g];exact⟨_,rfl⟩
  ·cases hs
 rw[J2 gA];exact⟨_,rfl⟩
def Lock.run_some(he:∀(i:Nat) (o p:Lo),os[i]?=some o→o.kind=17→os[(es.getD i 0).toNat]?=some p→p.kind=16)(ho:∀o∈os,Wb o=true):∀(n:Nat) (s t s':Ms),Lock s t→Qk os es n s=some s'→∃t',Qk os es n t=some t'∧Lock s' t'
 |0,s,t,s',h,hs=>by cases hs;exact⟨t,rfl,h⟩
 |n+1,s,t,s',h,hs=>by
  unfold Qk at hs ⊢;split at hs
  ·cases hs
  ·rename_i s1 h1;obtain⟨t1,h2⟩:=h.step_some ho h1;rw[h2];exact Lock.run_some he ho n s1 t1 s' (h.step he ho h1 h2) hs
def stay{os:List Lo}{es:List Int}{s:Ms}(h:os[s.i]?=none):∀n,Qk os es n s=some s
 |0=>rfl
 |n+1=>by
  have:Si os es s=some s:=by unfold Si;rw[h]
  unfold Qk;rw[this];exact stay h n
end lock
end
section
section facts
variable {bs : List Bf} {d a b n t : Pn} {k R e nb : Nat}
end facts
end
def zsw{bs:List Bf}{X Y:List (List UInt64)}(h:∀i,i<bs.length→(X.getD i []).length=(Y.getD i []).length):Lock (Rf 64 bs X) (Rf 64 bs Y):=by
 refine⟨rfl,rfl,rfl,Dw,Dw,λx _=>rfl,?_⟩;show (T9 bs X bs.length).map List.length=(T9 bs Y bs.length).map List.length;unfold T9;rw[List.map_map,List.map_map];refine List.map_congr_left λi hi=>?_
 have:=h i (L4.1 hi);simp only[Function.comp,V8,J7,List.length_replicate];omega
def zt3{f:Fr Lo}(hw:f.wf Rt):∀(i:Nat) (o p:Lo),f.flat[i]?=some o→o.kind=17→f.flat[((f.ends 0).getD i 0).toNat]?=some p→p.kind=16:=λi o p j z g=>by
 obtain⟨k,D,A,B,C⟩:=ends_at f 0 i o hw j z;rw[J0,A]at g;simp only[Ln,Ky,Kw]at g;rw[B]at g;rw[←Option.some.inj g];exact C
def zwc{b:Nat}(C:∀o∈vK,¬(o.kind=15∧o.buf.toNat=b)){s D:Ms}(h:Si vK vU s=some D):D.bufs.getD b []=s.bufs.getD b []∧D.bufs.length=s.bufs.length:=by
 unfold Si at h;cases g:vK[s.i]? with
 |none=>rw[g]at h;cases h;exact⟨rfl,rfl⟩
 |some o =>
 rw[g]at h;dsimp only at h;have E:=C o (Kg g);by_cases z:o.kind=16
 ·rw[J8 z]at h;cases h;exact⟨rfl,rfl⟩
 rw[J2 z]at h;by_cases A:o.kind=17
 ·rw[J8 A]at h;split at h
  ·cases h
  ·split at h<;>(cases h;exact⟨rfl,rfl⟩)
 rw[J2 A]at h;unfold Vi at h;by_cases B:o.kind=14
 ·rw[J8 B]at h;split at h
  ·cases h;exact⟨rfl,rfl⟩
  ·cases h
 rw[J2 B]at h;by_cases j:o.kind=15
 ·rw[J8 j]at h;split at h
  ·cases h;refine⟨?_,N⟩;simp only[J0];rw[Jy (λq=>E ⟨j,q⟩)]
  ·cases h
 rw[J2 j]at h;cases h;exact⟨rfl,rfl⟩
def zq4{z:List Lo}{A:List Int}{b:Nat}(j:∀o∈z,¬(o.kind=15∧o.buf.toNat=b)):∀(n:Nat) (s g:Ms),Qk z A n s=some g→g.bufs.getD b []=s.bufs.getD b []∧g.bufs.length=s.bufs.length
 |0,s,g,h=>by cases h;exact⟨rfl,rfl⟩
 |n+1,s,g,h=>by
  unfold Qk at h;split at h
  ·cases h
  ·rename_i B C;obtain⟨D,E⟩:=zwc j C;obtain⟨F,G⟩:=zq4 j n B g h;exact⟨F.trans D,G.trans E⟩

section
section run
variable {sz : Nat → Nat} {bd : Nat → Option Nat}
end run
end
section
section run
variable {sz : Nat → Nat} {bd : Nat → Option Nat}
end run
end
section
structure Cf where
 nb:Nat
 R:Int
 w:Int
 lo:Int
 hi:Int
 pa:Int
 pb:Int
 L:Nat→Prop
 S:Nat→Prop
def Ty(c:Cf)(x:Int):Prop:=c.R≤x∧x<c.R+c.w
def Xt(c:Cf)(x:Int):Prop:=(c.lo≤x∧x≤c.hi)∨(c.pa≤x∧x≤c.pb)
def X3(c:Cf)(x:Int):Prop:=x=-1∨Ty c x∨Xt c x
def hiO(c:Cf)(o:Lo):Prop:=(o.d=-1∨Ty c o.d)∧(o.e=-1∨Ty c o.e)∧(o.kind=14∨o.kind=15→o.a=-1∨Xt c o.a)
def plO(c:Cf)(o:Lo):Prop:=(o.kind≠14∧o.kind≠15)∧(c.pa≤o.d∧o.d≤c.pb)∧o.e=-1∧(o.a=-1∨Xt c o.a)∧(o.b=-1∨Xt c o.b)∧(o.c=-1∨Xt c o.c)
structure OpH (c:Cf) (o:Lo):Prop where
 k:o.kind≠16∧o.kind≠17
 f:o.buf.toNat<c.nb
 a:X3 c o.a
 b:X3 c o.b
 z:X3 c o.c
 m:hiO c o∨plO c o
 ld:o.kind=14→c.L o.buf.toNat
 st:o.kind=15→c.S o.buf.toNat
def Fr.AllH(c:Cf):Int→Fr Lo→Prop
 |_,.nil=>True
 |gg,.op o r=>OpH c o∧r.AllH c gg
 |gg,.loop o b e r=>LpG gg o∧(c.lo≤gg∧gg≤c.hi)∧e=Vu∧b.AllH c (gg+1)∧r.AllH c gg
structure CfOk (c:Cf):Prop where
 r:16≤c.R∧c.R+c.w≤64
 l:0≤c.lo∧c.hi<8
 p:8≤c.pa∧c.pb<16
def jf(c:Cf)(o:Lo):Prop:=OpH c o∨o=Vu∨∃g,LpG g o∧c.lo≤g∧g≤c.hi
section ah
variable {c : Cf}
def allH_cat:∀{f j:Fr Lo} {g:Int},f.AllH c g→j.AllH c g→(f.cat j).AllH c g
 |.nil,_,_,_,h=>h
 |.op _ _,_,_,h,k=>⟨h.1,allH_cat h.2 k⟩
 |.loop _ _ _ _,_,_,h,k=>⟨h.1,h.2.1,h.2.2.1,h.2.2.2.1,allH_cat h.2.2.2.2 k⟩
def allH_L:∀{l:List Lo} {g:Int},(∀o∈l,OpH c o)→(Pr l).AllH c g
 |[],_,_=>trivial
 |o::_,_,h=>⟨h o (Kx ..),allH_L λx j=>h x (Kl _ j)⟩
def zk4{b:Fr Lo}(A:B≤1000000)(g:c.lo≤z∧z≤c.hi)(j:b.AllH c (z+1)):(Rs z B b).AllH c z:=by
 unfold Rs;split
 ·trivial
 ·refine⟨⟨rfl,rfl,rfl,rfl,rfl,rfl,?_⟩,g,rfl,j,trivial⟩;obtain⟨n,rfl⟩:=J3 (J:0≤B);show 1≤(iU (n:Int)).toNat;rw[qx J];omega
def allH_wf:∀{f:Fr Lo} {g:Int},f.AllH c g→f.wf Rt
 |.nil,_,_=>trivial
 |.op o r,_,h=>⟨by unfold Rt;rw[J2 h.1.k.1,J2 h.1.k.2],allH_wf h.2⟩
 |.loop o b e r,_,h=>⟨by unfold Rt;rw[J8 h.1.1],by rw[h.2.2.1];rfl,allH_wf h.2.2.2.1,allH_wf h.2.2.2.2⟩
def zr2{x:Int}{ls:List Nat}(g:∀y∈ls,y<8)(h:x=-1∨(8≤x∧x<64)):ky ls x=true:=by
 unfold ky;rcases h with rfl|h
 ·simp
 ·have:¬x.toNat∈ls:=λq=>by have:=g _ q;omega
  simp[this];omega
def zwg(g:CfOk c){x:Int}(h:X3 c x):x<64:=by
 obtain⟨r,l,p⟩:=g;rcases h with h|h|h|h
 ·omega
 ·have:=h.2;omega
 ·omega
 ·omega
def mkH(z:CfOk c){o:Lo}(h:OpH c o):(o.d=-1∨(8≤o.d∧o.d<64))∧(o.e=-1∨(8≤o.e∧o.e<64)):=by
 obtain⟨r,l,p⟩:=z;rcases h.m with ⟨g,j,_⟩|⟨_,g,j,_⟩
 ·unfold Ty at g j;omega
 ·omega
def zcr(j:CfOk c):∀{f:Fr Lo} {g:Int} {ls:List Nat},(∀y∈ls,(y:Int)<g∧y<8)→f.AllH c g→f.regs c.nb ls=true
 |.nil,_,_,_,_=>rfl
 |.op o r,g,ls,z,h=>by
  obtain⟨F,h⟩:=h;have C:=zcr j z h;have A:∀y∈ls,y<8:=λy B=>(z y B).2
  obtain⟨G,H⟩:=mkH j F;simp only[Fr.regs,Jz,Kb];exact⟨zr2 A G,zr2 A H,zwg j F.a,zwg j F.b,zwg j F.z,F.f,C⟩
 |.loop o b e r,g,ls,z,h=>by
  obtain⟨⟨K,L,M,O,P,Q,I⟩,k,_,E,h⟩:=h;obtain⟨T,U,V⟩:=id j;have C:=zcr j z h;have E:=zcr (ls:=o.d.toNat::ls) j (λy B=>by
   rcases J9.1 B with rfl|B
   ·omega
   ·have:=z y B;omega) E
  simp only[Fr.regs,Jz,Kb];refine⟨?_,J,I,E,C⟩;unfold ky;have:¬o.d.toNat∈ls:=λq=>by have:=z _ q;omega
  simp[this];omega
def allH_flat:∀{f:Fr Lo} {j:Int},f.AllH c j→∀o∈f.flat,jf c o
 |.nil,_,_,o,g=>by simp[Fr.flat]at g
 |.op p r,_,h,o,g=>by
  simp only[Fr.flat,J9]at g;rcases g with rfl|g
  ·exact .inl h.1
  ·exact allH_flat h.2 o g
 |.loop p b e r,j,h,o,g=>by
  simp only[Fr.flat,J9,Ks]at g;rcases g with rfl|g|rfl|g
  ·exact .inr (.inr ⟨j,h.1,h.2.1⟩)
  ·exact allH_flat h.2.2.2.1 o g
  ·exact .inr (.inl h.2.2.1)
  ·exact allH_flat h.2.2.2.2 o g
def ur(g:CfOk c){x:Int}(h:x=-1∨Xt c x):x<16:=by
 obtain⟨r,l,p⟩:=g;unfold Xt at h;omega
def jf.low(hc:CfOk c){o:Lo}(h:jf c o):Wb o=true:=by
 have hr:=hc.r;have gA:=hc.l;have hp:=hc.p;rcases h with h|rfl|⟨gB,⟨g1,g2,g3,g4,g5,g6,g7⟩,k⟩
 ·unfold Wb;rw[J2 h.k.1,J2 h.k.2];rcases h.m with ⟨m1,m2,m3⟩|⟨m0,m1,m2,m3,m4,m5⟩
  ·have hd:lf o.d=true:=by unfold lf;unfold Ty at m1;simp only[K8,Kb];omega
   have he:lf o.e=true:=by unfold lf;unfold Ty at m2;simp only[K8,Kb];omega
   split
   ·rename_i hm;have ha:S5 o.a=true:=by unfold S5;exact Ll (ur hc (m3 hm))
    rw[ha,hd,he];rfl
   ·rw[hd,he];rfl
  ·rw[J2 J];have ha:S5 o.a=true:=by unfold S5;exact Ll (ur hc m3)
   have hb:S5 o.b=true:=by unfold S5;exact Ll (ur hc m4)
   have gg:S5 o.c=true:=by unfold S5;exact Ll (ur hc m5)
   rw[ha,hb,gg];simp
 ·rfl
 ·unfold Wb;rw[J8 g1];simp only[Jz,Kb];omega
def jf.safeS(hc:CfOk c){bs:List Bf}{o:Lo}(hs:∀n,c.S n→(Oy bs n).sec=true)(h:jf c o):ao bs ln o=true:=by
 have gB:=hc.l;rcases h with h|rfl|⟨gC,⟨g1,g2,g3,g4,g5,g6,g7⟩,k⟩
 ·unfold ao;have hk:=h.k;by_cases q:o.kind=14∨o.kind=15
  ·have hm:o.a=-1∨Xt c o.a:=by
    rcases h.m with ⟨_,_,m3⟩|⟨m0,_⟩
    ·exact m3 q
    ·omega
   have gg:ln o.a=false:=by have:=ur hc hm;unfold ln;rw[Le];omega
   by_cases gA:o.kind=15
   ·simp[gg,hs _ (h.st gA),hk.1]
   ·simp[gg,hk.1,gA]
  ·have h1:¬o.kind=14:=λe=>q (.inl e)
   have h2:¬o.kind=15:=λe=>q (.inr e)
   simp[Qd,h1,h2,hk.1]
 ·simp[ao,Vu,Qd]
 ·have:ln o.d=false:=by unfold ln;rw[Le];omega
  simp[ao,g1,Qd,this]
def zx6(o:Lo):∀x∈P3 o,x=o.a∨x=o.b∨x=o.c:=by
 intro x g;unfold P3 at g
 repeat' split at g
 all_goals simp at g
 all_goals omega
def jf.closedS(hc:CfOk c){bs:List Bf}{o:Lo}(hf:Rj 64 bs o=true)(h:jf c o):Vm bs ln o=true→∀x∈O7 o,ln x=true:=by
 have hr:=hc.r;rcases h with h|rfl|⟨gA,⟨g1,g2,g3,g4,g5,g6,g7⟩,k⟩
 ·intro gg x hx;have gB:=(zpi hf x hx).1;rcases h.m with ⟨m1,m2,m3⟩|⟨m0,m1,m2,m3,m4,m5⟩
  ·have:x=o.d∨x=o.e:=by
    unfold O7 at hx;split at hx
    ·simpa using hx
    ·split at hx
     ·simp at hx
     ·simp at hx;exact .inl hx
   unfold ln;rw[Kb];unfold Ty at m1 m2;rcases this with rfl|rfl<;>omega
  ·exfalso;unfold Vm at gg;rw[J2 h.k.1,J2 m0.1]at gg;obtain⟨y,hy,hC⟩:=K5.1 gg;unfold ln at hC;rw[Kb]at hC;rcases zx6 o y hy with rfl|rfl|rfl
   ·have:=ur hc m3;omega
   ·have:=ur hc m4;omega
   ·have:=ur hc m5;omega
 ·intro h;simp[Vm,Vu,P3]at h
 ·intro h;simp[Vm,g1]at h
def C0(_:Int):Bool:=false
def safeP{o:Lo}:ao T C0 o=true:=by simp[ao,C0]
def jf.closedP{bs:List Bf}{o:Lo}(hs:∀n,c.L n→(Oy bs n).sec=false)(h:jf c o):Vm bs C0 o=true→∀x∈O7 o,C0 x=true:=by
 intro gg;exfalso;unfold Vm at gg;split at gg
 ·cases gg
 ·split at gg
  ·rename_i gA;rcases h with h|rfl|⟨gB,⟨g1,_⟩,_⟩
   ·rw[hs _ (h.ld gA)]at gg;cases gg
   ·simp[Vu]at gA
   ·omega
  ·simp[C0]at gg
def jf.sto{o:Lo}(h:jf c o)(k:o.kind=15):c.S o.buf.toNat:=by
 rcases h with h|rfl|⟨gg,⟨g1,_⟩,_⟩
 ·exact h.st k
 ·simp[Vu]at k
 ·omega
def Lb(c:Cf)(p:Pn):Prop:=p.b<c.nb∧c.L p.b
def Sb(c:Cf)(p:Pn):Prop:=p.b<c.nb∧c.S p.b
def Yd{v i:Int}{p:Pn}(g:Lb c p)(j:Ty c v)(hi:i=-1∨Xt c i):OpH c (Qw v p.p i z) :=
 ⟨by simp[Qw],by simpa [Qw,Pn.p] using g.1,hi.imp_right .inr,.inl rfl,.inl rfl,.inl ⟨.inr j,.inl rfl,λ_=>hi⟩,λ_=>by simpa [Qw,Pn.p] using g.2,λh=>by simp[Qw]at h⟩
def zsb{v i:Int}{p:Pn}(g:Sb c p)(j:X3 c v)(hi:i=-1∨Xt c i):OpH c (P2 p.p i z v) :=
 ⟨by simp[P2],by simpa [P2,Pn.p] using g.1,hi.imp_right .inr,j,.inl rfl,.inl ⟨.inl rfl,.inl rfl,λ_=>hi⟩,λh=>by simp[P2]at h,λ_=>by simpa [P2,Pn.p] using g.2⟩
def zp{v:Int}{x:UInt64}(g:0<c.nb)(j:Ty c v):OpH c (cK v x) :=
 ⟨by simp[cK],g,.inl rfl,.inl rfl,.inl rfl,.inl ⟨.inr j,.inl rfl,λh=>by simp[cK]at h⟩,λh=>by simp[cK]at h,λh=>by simp[cK]at h⟩
def oh_Mv{v x:Int}(g:0<c.nb)(j:Ty c v)(z:X3 c x):OpH c (Vy v x) :=
 ⟨by simp[Vy],g,z,.inl rfl,.inl rfl,.inl ⟨.inr j,.inl rfl,λh=>by simp[Vy]at h⟩,λh=>by simp[Vy]at h,λh=>by simp[Vy]at h⟩
def zi{x y w:Int}(g:0<c.nb)(j:Ty c x)(A:Ty c y)(B:X3 c z)(hw:X3 c w):OpH c (Rr x y z w) :=
 ⟨by simp[Rr],g,B,hw,.inl rfl,.inl ⟨.inr j,.inr A,λh=>by simp[Rr]at h⟩,λh=>by simp[Rr]at h,λh=>by simp[Rr]at h⟩
def aj{x w:Int}(C:3≤z∧z≤7)(g:0<c.nb)(j:Ty c x)(A:X3 c B)(hw:X3 c w):OpH c (Pd z x B w) :=
 ⟨Fy,g,A,hw,.inl rfl,.inl ⟨.inr j,.inl rfl,λh=>Cw⟩,λh=>Cw,λh=>Cw⟩
def oh_Twl{x w:Int}(C:3≤z∧z≤7)(j:0<c.nb)(A:c.pa≤x∧x≤c.pb)(g:Xt c B)(hw:Xt c w):OpH c (Pd z x B w) :=
 ⟨Fy,j,.inr (.inr g),.inr (.inr hw),.inl rfl,.inr ⟨Fy,A,rfl,.inr g,.inr hw,.inl rfl⟩,λh=>Cw,λh=>Cw⟩
def zw6{x y w q:Int}(F:z=11∨z=12)(g:0<c.nb)(j:Ty c x)(A:Ty c y)(C:X3 c B)(hw:X3 c w)(E:X3 c q):OpH c (Py z x y B w q) :=
 ⟨by simp[Py];omega,g,C,hw,E,.inl ⟨.inr j,.inr A,λh=>Ha⟩,λh=>Ha,λh=>Ha⟩
def Uw{x:Lo}{y:List Lo}(h:OpH c x)(k:∀o∈y,OpH c o):∀o∈x::y,OpH c o:=λo g=>by
 rcases J9.1 g with rfl|g
 ·exact h
 ·exact k o g
def oh_nil:∀o∈([]:List Lo),OpH c o:=λ_ h=>Af
def Ux{x:Int}(h:Ty c x):X3 c x:=.inr (.inl h)
section into
variable {R D k : Int} {d a b n t : Pn}
def rgr(j:c.R≤R∧R+11≤c.R+c.w)(g:Int)(h:0≤g∧g≤10):Ty c (R+g):=by unfold Ty;omega
def rgr0(g:c.R≤R∧R+11≤c.R+c.w):Ty c R:=by unfold Ty;omega
def zvg{x:Int}{p:Pn}(j:Sb c p)(z:X3 c x)(g:c.lo≤D∧D≤c.hi)(A:p.k≤1000000):(Vx p.p x D).AllH c D:=by
 unfold Vx;exact zk4 (by show (p.k:Int)≤_;omega) g (allH_L (Uw (zsb j z (.inr (.inl g))) oh_nil))
end into
end ah
end
section
noncomputable section
def shT(p:Pc)(n l o b g:Int):Fr Lo:=Rs g n (Pr [Qw l p g 0,cSh 9 o l 63,cSh 8 l l 1,Pd 6 l l b,P2 p g 0 l,Vy b o])
def cpT(g j:Pc)(k l z:Int):Fr Lo:=Rs z k (Pr [Qw l j z 0,P2 g z 0 l])
def rxB(n r:Pc)(g j:Int):List Lo:=[Qw (g+2) r j 0,Qw (g+4) n j 0,Py 12 (g+4) (g+5) (g+2) (g+4) (g+5)]
def fj(n r:Pc)(k g j:Int)(x:List Lo):Fr Lo:=(Pr [cK (g+5) 0]).cat ((Rs j k (Pr (rxB n r g j++x))).cat (Pr [Qw (g+2) r (-1) k,Py 12 (g+4) (g+5) (g+2) g (g+5)]))
def oq(n r:Pc)(k g j:Int):Fr Lo:=(shT r (k+1) (g+2) (g+3) (g+1) j).cat ((fj n r k g j []).cat ((Pr [Vy (g+6) (g+5)]).cat ((fj n r k g j [lu (g+4) (g+6) (g+2) (g+4),P2 r j 0 (g+4)]).cat (Pr [lu (g+4) (g+6) (g+2) (g+4),P2 r (-1) k (g+4),cK (g+1) 0]))))
def radixT(d n r:Pc)(k bits g j:Int):Fr Lo:=(Pr [cK g 0,cK (g+1) 1]).cat ((Vx r g j).cat ((Rs j (bits+1) (oq n r k g (j+1))).cat (cpT d r k (g+2) j)))
structure Pw where
 d:Pn
 a:Pn
 b:Pn
 n:Pn
 wb:Nat
 wa:Nat
 k:Nat
 w:Nat
 times:Nat
 over:Nat
 B:Nat
def Pw.acc(p:Pw):Pn:=⟨p.wb,p.wa,p.k⟩
def Pw.base(p:Pw):Pn:=⟨p.wb,p.wa+p.k,p.k⟩
def Pw.cur(p:Pw):Pn:=⟨p.wb,p.wa+2*p.k,p.k⟩
def Pw.es(p:Pw):Pn:=⟨p.wb,p.wa+3*p.k,p.b.k+1⟩
def Pw.t(p:Pw):Pn:=⟨p.wb,p.wa+3*p.k+p.b.k+1,p.k+2⟩
def Pw.tab(p:Pw):Pn:=⟨p.wb,p.wa+4*p.k+p.b.k+3,p.k*2^p.w⟩
def Pw.ent(p:Pw):Pn:=⟨p.tab.b,p.tab.a,p.k⟩
def Pw.r(p:Pw):Pn:=⟨p.t.b,p.t.a,p.k+1⟩
def Pw.mont(p:Pw)(d a b:Pn)(D:Int):Fr Lo:=intoT d.p a.p b.p p.n.p p.t.p p.k (p.B+10) D
def Pw.radix(p:Pw)(d:Pn)(bits D:Int):Fr Lo:=radixT d.p p.n.p p.r.p p.k bits (p.B+10) D
def Pw.copies(p:Pw)(to fr:Pn)(D:Int):Fr Lo:=cpT to.p fr.p p.k (p.B+3) D
def Pw.fillR(p:Pw)(D:Int):Fr Lo:=(p.mont p.acc p.acc p.base (D+1)).cat ((Rs (D+1) p.k (Pr [Qw (p.B+3) p.acc.p (D+1) 0,Pd 3 13 12 (D+1),P2 p.tab.p 13 0 (p.B+3)])).cat (Pr [cK 13 (iU p.k),Pd 3 12 12 13]))
def Pw.fill(p:Pw)(D:Int):Fr Lo:=(p.radix p.ent (64*p.k) D).cat ((p.radix p.cur (128*p.k) D).cat ((p.mont p.base p.a p.cur D).cat ((p.copies p.acc p.ent D).cat ((Pr [cK 12 (iU p.k)]).cat (Rs D (2^p.w-1:Nat) (p.fillR D))))))
def Pw.expB(p:Pw)(D:Int):List Lo:=if p.over=0 then [Qw (p.B+3) p.b.p D 0,P2 p.es.p D 1 (p.B+3)] else [Qw (p.B+3) p.b.p D 0,cSh 8 (p.B+2) (p.B+3) (64-p.over),Pd 6 (p.B+2) (p.B+2) (p.B+4),P2 p.es.p D 0 (p.B+2),cSh 9 (p.B+4) (p.B+3) p.over]
def Pw.expE(p:Pw):List Lo:=if p.over=0 then [P2 p.es.p (-1) 0 p.B] else [P2 p.es.p (-1) p.b.k (p.B+4)]
def Pw.exp(p:Pw)(D:Int):Fr Lo:=(Pr [Vy (p.B+4) p.B]).cat ((Rs D p.b.k (Pr (p.expB D))).cat (Pr p.expE))
def Pw.shift(p:Pw)(D:Int):Fr Lo:=(Pr [Vy (p.B+2) p.B]).cat ((shT p.es.p p.es.k (p.B+3) (p.B+4) (p.B+2) D).cat (Pr [cSh 8 (p.B+1) (p.B+1) 1,Pd 6 (p.B+1) (p.B+1) (p.B+2)]))
def Pw.scanB(p:Pw)(D:Int):List Lo:=[Pd 3 13 12 D,Qw (p.B+3) p.tab.p 13 0,Qw (p.B+6) p.cur.p D 0,lu (p.B+3) (p.B+5) (p.B+6) (p.B+3),P2 p.cur.p D 0 (p.B+3)]
def Pw.scanR(p:Pw)(D:Int):Fr Lo:=(Pr [Pd 7 (p.B+5) (p.B+1) D,Py 12 (p.B+4) (p.B+5) p.B (p.B+5) p.B]).cat ((Rs (D+1) p.k (Pr (p.scanB (D+1)))).cat (Pr [cK 13 (iU p.k),Pd 3 12 12 13]))
def Pw.scan(p:Pw)(D:Int):Fr Lo:=(Pr [cK 12 0]).cat (Rs D (2^p.w:Nat) (p.scanR D))
def Pw.runW(p:Pw)(D:Int):Fr Lo:=(p.mont p.acc p.acc p.acc D).cat (p.shift D)
def Pw.runR(p:Pw)(D:Int):Fr Lo:=(Pr [Vy (p.B+1) p.B]).cat ((Rs D p.w (p.runW (D+1))).cat ((p.scan D).cat (p.mont p.acc p.acc p.cur D)))
def Pw.run(p:Pw)(D:Int):Fr Lo:=(p.copies p.acc p.ent D).cat ((Rs D p.times (p.runR (D+1))).cat ((Pr [cK (p.B+3) 1]).cat ((Vx p.cur.p p.B D).cat ((Pr [P2 p.cur.p (-1) 0 (p.B+3)]).cat (p.mont p.d p.acc p.cur D)))))
def Pw.code(p:Pw)(D:Int):Fr Lo:=(Pr [cK p.B 0]).cat ((p.fill D).cat ((p.exp D).cat (p.run D)))
section all
variable {c : Cf}
structure PwC (c:Cf) (p:Pw):Prop where
 r:c.R≤p.B∧(p.B:Int)+21≤c.R+c.w
 q:c.pa≤12∧13≤c.pb
 d:Sb c p.d
 a:Lb c p.a
 b:Lb c p.b
 n:Lb c p.n
 wl:c.L p.wb
 ws:c.S p.wb
 wb:p.wb<c.nb
 k:p.k≤512
 w:p.w≤6
 ti:p.times≤100000
 bk:p.b.k≤512
end all
end
end
section
def Yp(D:Int)(ls:List Int):Prop:=(ls.length:Int)≤D∧∀x∈ls,x<D
def Xe(D:Int)(S:List Int):Prop:=∀x∈S,x<D∨8≤x
section gd
variable {bs : List Bf} {S S' T ls : List Int} {D : Int} {f g b : Fr Lo} {l : List Lo}
def Yp.snoc(h:Yp D ls):Yp (D+1) (ls++[D]):=⟨by have:=h.1;simp;omega,λx hx=>by
 rcases Ks.1 hx with hx|hx
 ·have:=h.2 x hx;omega
 ·simp at hx;omega⟩
def Yp.lt(h:Yp D ls)(hD:D≤8):∀x∈ls,x<8:=λx hx=>by have:=h.2 x hx;omega
def Xe.cons(h:Xe D S):Xe (D+1) (D::S):=λx hx=>by
 rcases J9.1 hx with rfl|hx
 ·omega
 ·have:=h x hx;omega
def Xe.high{x:Int}(h:Xe D S)(hx:8≤x):Xe D (x::S):=λy hy=>by
 rcases J9.1 hy with rfl|hy
 ·exact .inr hx
 ·exact h y hy
def Gd.lpD{times:Int}(h:Yp D ls)(hD:0≤D∧D<8)(hS:Xe D S)(ht:times≤1048576)(hb:Gd bs (D::S) (ls++[D]) b S')(hs:∀x∈S,x∈S'):Gd bs S ls (Rs D times b) S :=
 .lp (by have:=h.1;omega) hD (λq=>by have:=h.2 _ q;omega) (λq=>by have:=hS _ q;omega) ht hb hs
def Gd.Lm(hL:Yp D ls)(hD:D≤8)(h:Th 64 bs S l)(hk:∀o∈l,∀x∈O7 o,8≤x)(hT:∀x∈T,x∈l.flatMap O7++S):Gd bs S ls (Pr l) T :=
 Gd.mono (Gd.L (hL.lt hD) h hk) (λ_ h=>h) hT
def okL_Mv{d a:Int}(h:0≤d∧d<64)(j:0≤a∧a<64)(z:a∈S)(k:Th 64 bs (d::S) l):Th 64 bs S (Vy d a::l) :=
 ⟨zx0 h j,by simp[Vy],by simp[P3,Vy,z],k⟩
def gr{x:Int}{p:Pn}(j:Yp D ls)(z:0≤D∧D<8)(A:Xe D S)(B:0≤x∧x<64)(C:x∈S)(E:Bp bs p)(wp:Bw bs p):Gd bs S ls (Vx p.p x D) S :=
 rf B C z (λq=>by have:=j.2 _ q;omega) (λq=>by have:=A _ q;omega) (by have:=j.1;omega) (j.lt J) E wp
structure PwG (bs:List Bf) (p:Pw):Prop where
 B:16≤p.B∧p.B≤40
 d:Bp bs p.d
 wd:Bw bs p.d
 a:Bp bs p.a
 b:Bp bs p.b
 n:Bp bs p.n
 wb:p.wb<bs.length
 wz:((p.wa+4*p.k+p.b.k+3+p.k*2^p.w:Nat):Int)≤(Oy bs p.wb).size
 w6:(Oy bs p.wb).size≤65536
 ww:(Oy bs p.wb).kind≠1
 k:1≤p.k∧p.k≤512
 nk:0<p.n.k
 w:1≤p.w∧p.w≤6
 ti:p.times≤100000
 ov:p.over≤63
 bk:p.b.k≤512
end gd
end
section
set_option linter.unusedSimpArgs false
def Fm(l:List Pn)(m m':Nat→Nat→UInt64):Prop:=∀x y,(∀p∈l,¬(x=p.b∧p.a≤y∧y<p.a+p.k))→m' x y=m x y
section fm
variable {l l' : List Pn} {m m' m'' : Nat → Nat → UInt64} {p q : Pn}
def Fm.trans(h:Fm l m m')(k:Fm l m' m''):Fm l m m'':=λx y hn=>(k x y hn).trans (h x y hn)
def Qb.fm(h:Qb p m m')(hp:p∈l):Fm l m m':=λx y hn=>h x y (hn p hp)
def Fm.pl(h:Fm l m m')(d:∀p∈l,Dj p q){i:Nat}(hi:i<q.k):pl m' q i=pl m q i :=
 h _ _ λp hp ⟨h1,h2,h3⟩=>by
  rcases d p hp with d|d|d
  ·exact d h1.symm
  ·omega
  ·omega
def Fm.vl(h:Fm l m m')(d:∀p∈l,Dj p q){n:Nat}(hn:n≤q.k):vl (Go.Sv.pl m' q) n=vl (Go.Sv.pl m q) n:=Zh λ_ hi=>h.pl d J
end fm
section ex
variable {sz : Nat → Nat} {s : Fs}
end ex
end
section
set_option linter.unusedSimpArgs false
section ex
variable {sz : Nat → Nat} {s : Fs}
def Pw.wk(p:Pw):Pn:=⟨p.wb,p.wa,4*p.k+p.b.k+3+p.k*2^p.w⟩
structure PwS (sz:Nat→Nat) (p:Pw):Prop where
 B:16≤p.B∧p.B≤40
 d:p.d.in_ sz
 a:p.a.in_ sz
 b:p.b.in_ sz
 n:p.n.in_ sz
 wk:p.wk.in_ sz
 k:1≤p.k
 kb:p.k≤512
 dk:p.d.k=p.k
 ak:p.a.k=p.k
 nk:p.n.k=p.k
 db:p.d.b≠p.wb
 ab:p.a.b≠p.wb
 bb:p.b.b≠p.wb
 nb:p.n.b≠p.wb
 dn:cd p.d p.n
 w:1≤p.w∧p.w≤6
 ov:p.over≤63
 ti:p.times*p.w=64*p.b.k+p.over
section pieces
variable {p : Pw}
end pieces
end ex
end
section
set_option linter.unusedSimpArgs false
section ex
variable {sz : Nat → Nat} {s : Fs} {p : Pw}
end ex
end
section
set_option linter.unusedSimpArgs false
section ex
variable {sz : Nat → Nat} {s : Fs} {p : Pw}
def Pw.H(p:Pw)(m:Nat→Nat→UInt64):Prop:=pl m p.n 0%2=1∧vl (pl m p.a) p.k<vl (pl m p.n) p.k
end ex
end
section
set_option linter.unusedSimpArgs false
section stp
def zpe{d times:Int}{b:Fr Lo}{T M:Nat}(g:times≤T)(j:T≤1000000)(z:b.stp≤M):(Rs d times b).stp≤T*(1+M) :=
 K4 (yj d times b J) (Lw J J)
end stp
section prog
variable {p : Pw} {e : Nat} {c : Cf} {bs : List Bf} {sz : Nat → Nat} {s0 : Fs}
end prog
end
section
def Vo(vs:List Vr):List Bf:=vs.map λv=>⟨v.limbs,2,v.sec⟩
def Qy(vs:List Vr):List Pc:=(List.range vs.length).map λi:Nat=>⟨(i:Int),0,(gv vs i).limbs⟩
def Ps(vs:List Vr)(W:Int):List Bf:=Vo vs++[⟨W,2,false⟩,⟨W,2,true⟩]
section pl
variable {vs : List Vr} {W : Int} {i : Nat}
def plB_len:(Ps vs W).length=vs.length+2:=by simp[Ps,Vo]
def plP_len:(Qy vs).length=vs.length:=by simp[Qy]
def qr(hi:i<vs.length):Oy (Ps vs W) i=⟨(gv vs i).limbs,2,(gv vs i).sec⟩:=by
 have h:=Wm hi;have e:vs[i]=gv vs i:=by rw[J5 hi]at h;exact Option.some.inj h
 unfold Oy Ps Vo;rw[J0,J6 Dt,Lr,J5 hi,e];rfl
def plB_w0:Oy (Ps vs W) vs.length=⟨W,2,false⟩:=by
 unfold Oy Ps Vo;rw[J0,Kj N];simp
def plB_w1:Oy (Ps vs W) (vs.length+1)=⟨W,2,true⟩:=by
 unfold Oy Ps Vo;rw[J0,Kj N];simp
def bg(hi:i<vs.length):T5 (Qy vs) i=⟨i,0,(gv vs i).limbs⟩:=by
 unfold T5 Qy;rw[J0,Lr,List.getElem?_range hi];rfl
def zjw(z:To vs=true)(hi:i<vs.length):1≤(gv vs i).limbs∧(gv vs i).limbs≤512:=by
 obtain⟨k,e,_,_,g,j⟩:=z64 z (v:=(i:Int)) J;unfold Te at g j;rw[Ky]at g j;exact⟨g,j⟩
def zy{v:Vr}(h:v∈vs):∃i,i<vs.length∧gv vs i=v:=by
 obtain⟨i,hi,e⟩:=L5.1 h;have h:=Wm hi;rw[J5 hi,e]at h;exact⟨i,hi,(Option.some.inj h).symm⟩
def zo2(z:To vs=true)(A:1≤W∧W≤32768):∀b∈Ps vs W,1≤b.size∧b.size≤65536∧1≤b.kind∧b.kind≤3:=by
 intro b g;unfold Ps Vo at g;rcases Ks.1 g with g|g
 ·obtain⟨v,j,rfl⟩:=Nm.1 g;obtain⟨i,hi,rfl⟩:=zy j;have:=zjw z hi;simp only;omega
 ·simp at g;rcases g with rfl|rfl<;>simp only<;>omega
def zsj(z:To vs=true)(hm:∀i,i<vs.length→(gv vs i).mode=0)(D:vs.length≤30)(C:1≤W∧W≤32768):U0 vs (Ps vs W) (Qy vs) ⟨vs.length,0,W⟩ ⟨(vs.length:Int)+1,0,W⟩=true:=by
 have g:=zo2 z C;have j:Z7 (Ps vs W)=0:=by
  unfold Z7;rw[plB_len,J2 J,J2,J2]
  ·rw[K5];rintro⟨b,j,A⟩;have:=g b j;simp at A;omega
  ·rw[K5];rintro⟨b,j,A⟩;have:=g b j;simp at A;omega
 unfold U0;rw[z,j,plB_len,plP_len];simp only[Nv,decide_true,Jz,Kb];refine⟨J,?_,?_,?_⟩
 ·refine Lq.2 λi hi=>?_
  have hi:=L4.1 hi;have E:=zjw z hi;have B:=hm i hi;have e:((⟨i,0,(gv vs i).limbs⟩:Pc).buf.toNat)=i:=N
  unfold Y8 We;rw[bg hi,e,qr hi,plB_len];simp[Ti,B];omega
 ·have e:((⟨vs.length,0,W⟩:Pc).buf.toNat)=vs.length:=N
  unfold Wk We;rw[e,plB_w0,plB_len];simp;omega
 ·have e:((⟨(vs.length:Int)+1,0,W⟩:Pc).buf.toNat)=vs.length+1:=by simp only;omega
  unfold Wk We;rw[e,plB_w1,plB_len];simp;omega
end pl
section st
variable {bs : List Bf} {X : List (List UInt64)} {i : Nat}
def zmd(h:((X.getD i []).length:Int)=(Oy bs i).size)(hi:i<bs.length):(Rf 64 bs X).bufs.getD i []=X.getD i []:=by
 show (T9 bs X bs.length).getD i []=_;unfold T9;rw[J0,Lr,List.getElem?_range hi];simp only[L6,Ln];unfold V8;rw[(J:(Oy bs i).size.toNat-(X.getD i []).length=0)];simp
def zpm(h:((X.getD i []).length:Int)=(Oy bs i).size)(hi:i<bs.length):lh (Rf 64 bs X) i=(Oy bs i).size.toNat:=by
 unfold lh;rw[zmd h hi];omega
def sv(h:((X.getD i []).length:Int)=(Oy bs i).size)(hi:i<bs.length)(g:Nat):(Vg (Rf 64 bs X)).m i g=(X.getD i []).getD g 0:=by
 show ((Rf 64 bs X).bufs.getD i []).getD g 0=_;rw[zmd h hi]
def je{p:Pn}(h:((X.getD p.b []).length:Int)=(Oy bs p.b).size)(g:Bp bs p):p.in_ (lh (Rf 64 bs X)):=by
 have z:=g.s;have A:=g.z;have j:=zpm h g.b;unfold Pn.in_;rw[j];constructor
 ·omega
 ·exact_mod_cast (J:(Oy bs p.b).size.toNat≤65536)
def zr4{p:Pn}{n:Nat}(h:((X.getD p.b []).length:Int)=(Oy bs p.b).size)(g:p.b<bs.length)(j:p.a=0)(z:(X.getD p.b []).length=n):vl (pl (Vg (Rf 64 bs X)).m p) n=val (X.getD p.b []):=by
 refine vl_get (M7 z) λi hi=>?_
 show (Vg (Rf 64 bs X)).m p.b (p.a+i)=_;rw[j,Kw,sv h g]
end st
end
section
noncomputable section
def Sq(p:Pc)(g d i off:Int):Lo:=if off<p.size then Qw d p i off else Vy d g
def Ph(D:Int)(body:Int→List Lo):List Int→Fr Lo
 |x::y::l=>(Rs D (y-x) (Pr (body x))).cat (Ph D body (y::l))
 |_=>.nil
def cz:List Int→List Int
 |x::y::l=>if x=y then cz (y::l) else x::cz (y::l)
 |l=>l
def ddp_head:∀(l:List Int) (x:Int),∃t,cz (x::l)=x::t
 |[],x=>⟨[],rfl⟩
 |y::l,x=>by
  rw[cz];by_cases e:x=y
  ·rw[J8 e,e];exact ddp_head l y
  ·rw[J2 e];exact⟨_,rfl⟩
def zkj{D:Int}{body:Int→List Lo}:∀l:List Int,Ph D body (cz l)=Ph D body l
 |[]=>rfl
 |[_]=>rfl
 |x::y::l=>by
  rw[cz];by_cases e:x=y
  ·rw[J8 e,zkj (y::l),Ph,e,Int.sub_self];rfl
  ·obtain⟨t,g⟩:=ddp_head l y;have h:=zkj (D:=D) (body:=body) (y::l);rw[J2 e,g,Ph,Ph,←g,h]
def zfv{g:Int}:∀l:List Int,g∈cz l↔g∈l
 |[]=>Iff.rfl
 |[_]=>Iff.rfl
 |x::y::l=>by
  rw[cz];by_cases e:x=y
  ·rw[J8 e,zfv (y::l),e];simp
  ·rw[J2 e,J9,zfv (y::l)];simp
def rise_ddp:∀l:List Int,l.Pairwise (·≤·)→(cz l).Pairwise (· < ·)
 |[],_=>.nil
 |[_],_=>by simp[cz]
 |x::y::l,h=>by
  obtain⟨A,j⟩:=Nj.1 h;have z:=rise_ddp (y::l) j;rw[cz];by_cases e:x=y
  ·rw[J8 e];exact z
  ·rw[J2 e];refine Nj.2 ⟨λC g=>?_,z⟩;have g:=(zfv _).1 g;have B:=A y (Kx ..);rcases J9.1 g with q|q
   ·omega
   ·have:=(Nj.1 j).1 C q;omega
def jd{l:List Int}(h:tb l l.length):l.Pairwise (·≤·):=by
 rw[List.pairwise_iff_getElem];intro i z hi j g;have:=h i z g j;simpa [gd,hi,j] using this
def seg_eq{D:Int}{body:Int→List Lo}{l:List Int}(h:tb l l.length)(g:vU.Pairwise (·≤·))(hm:∀x,x∈l↔x∈vU):Ph D body l=Ph D body vU:=by
 rw[←zkj l,←zkj vU,rise_eq (rise_ddp l (jd h)) (rise_ddp vU g) λx=>by rw[zfv,zfv,hm]]
def Yl(n a:Int):List Int:=[0,min a n,n]
def Ye(n a b:Int):List Int:=[0,min (min a b) n,min (max a b) n,n]
def zs9{n a:Int}(g:0≤n)(j:0≤a):(Yl n a).Pairwise (·≤·):=by simp[Yl];omega
def zrr{n a b:Int}(g:0≤n)(j:0≤a)(z:0≤b):(Ye n a b).Pairwise (·≤·):=by simp[Ye];omega
def zuk{n a x:Int}:x∈[0,n,min a n]↔x∈Yl n a:=by simp[Yl];omega
def zvf{n a b x:Int}:x∈[0,n,min a n,min b n]↔x∈Ye n a b:=by simp[Ye];omega
def Yf(z:Int)(to a b:Pc)(g:Bool)(j D off:Int):List Lo :=
 [Sq a j (j+2) D off,Sq b j (j+3) D off,Py z (j+4) (j+1) (j+2) (j+3) (j+1)]++if g=true then [P2 to D off (j+4)] else []
def S7(g:Int)(to a b:Pc)(n:Int)(keep:Bool)(j D:Int):Fr Lo:=(Pr [cK (j+1) 0]).cat (Ph D (Yf g to a b keep j D) (Ye n a.size b.size))
def Zj(to g:Pc)(j D off:Int):List Lo:=[Sq g j (j+2) D off,P2 to D off (j+2)]
def R1(to g:Pc)(j D:Int):Fr Lo:=Ph D (Zj to g j D) (Yl to.size g.size)
def rl(m:Nat→Nat→UInt64)(p:Pn)(i:Nat):UInt64:=if i<p.k then pl m p i else 0
def iw{m:Nat→Nat→UInt64}{p:Pn}{i:Nat}(h:i<p.k):rl m p i=pl m p i:=J8 h
def th{m:Nat→Nat→UInt64}{p:Pn}{i:Nat}(h:p.k≤i):rl m p i=0:=J2 J
def f9{m:Nat→Nat→UInt64}{p:Pn}:∀{n:Nat},p.k≤n→vl (rl m p) n=vl (pl m p) p.k
 |n,h=>by
  induction n with
  |zero =>
   have:p.k=0:=J
   rw[this];rfl
  |succ n g =>
   by_cases q:p.k≤n
   ·rw[Zz,g q,th q];simp
   ·have e:p.k=n+1:=J
    rw[e];exact Zh λi hi=>iw J
def i6{m:Nat→Nat→UInt64}{p:Pn}{n:Nat}(h:n≤p.k):vl (rl m p) n=vl (pl m p) n:=Zh λi hi=>iw J
section ex
variable {sz : Nat → Nat} {s : Fs}
def zoj{p:Pn}{d off j:Nat}(C:p.in_ sz)(D:s.r g=0)(z:(s.r A).toNat=j)(B:off<p.k→off+j<p.k):S9 sz (Sq p.p g d A off) s=some (s.put d (rl s.m p (off+j))):=by
 unfold Sq;obtain⟨G,E⟩:=C;by_cases F:off<p.k
 ·rw[J8 (by show (off:Int)<(p.k:Nat);omega),zqc (by rw[z];have:=B F;omega) E,z,iw (B F)]
 ·rw[J2 (by show ¬(off:Int)<(p.k:Nat);omega),opZ_Mv,D,th J]
def dq{I:Nat→Fs→Prop}{b:Fr Lo}{x y:Nat}(z:x≤y)(A:y<18446744073709551616)(h:I x s)(st:∀i s,x≤i→i<y→I i s→Tx sz b (s.put g (UInt64.ofNat (i-x))) (I (i+1))):Tx sz (Rs g ((y:Int)-x) b) s (I y):=by
 rw[(J:((y:Int)-x)=((y-x:Nat):Int))];refine .lp (λB=>I (x+B)) Ar J (λi s hi j=>?_) λC j=>by rwa [(J:x+(y-x)=y)]at j
 have:=st (x+i) s J J j
 rwa [(J:x+i-x=i)]at this
def sw{I:Nat→Fs→Prop}{j:Int→List Lo}{x y z n:Nat}(D:x≤y)(E:y≤z)(F:z≤n)(H:n<18446744073709551616)(h:I x s)
  (st:∀(off C i:Nat) s,(off=x∧C=y∨off=y∧C=z∨off=z∧C=n)→off≤i→i<C→I i s→Tx sz (Pr (j off)) (s.put g (UInt64.ofNat (i-off))) (I (i+1))):Tx sz (Ph g j [(x:Int),(y:Int),(z:Int),(n:Int)]) s (I n):=by
 unfold Ph;refine .cat (dq (I:=I) D J h λi s A B=>st x y i s N A B) λK A=>?_
 unfold Ph;refine .cat (dq (I:=I) E J A λi s A B=>st y z i s N A B) λL B=>?_
 unfold Ph;refine .cat (dq (I:=I) F J B λi s A B=>st z n i s N A B) λM G=>?_
 unfold Ph;exact .nil G
def jc{I:Nat→Fs→Prop}{j:Int→List Lo}{x y n:Nat}(B:x≤y)(C:y≤n)(E:n<18446744073709551616)(h:I x s)
  (st:∀(off D i:Nat) s,(off=x∧D=y∨off=y∧D=n)→off≤i→i<D→I i s→Tx sz (Pr (j off)) (s.put g (UInt64.ofNat (i-off))) (I (i+1))):Tx sz (Ph g j [(x:Int),(y:Int),(n:Int)]) s (I n):=by
 unfold Ph;refine .cat (dq (I:=I) B J h λi s z A=>st x y i s N z A) λF z=>?_
 unfold Ph;refine .cat (dq (I:=I) C J z λi s z A=>st y n i s N z A) λG A=>?_
 unfold Ph;exact .nil A
def RgC(z A:Nat)(s j:Fs):Prop:=∀g,¬(z+1≤g∧g≤z+4)→g≠A→j.r g=s.r g
def Uc(g:Int)(j v z A c:Nat):Prop:=if g=11 then v+j*c=z+A else v+A=z+j*c
def Xo(g:Int)(x y:UInt64)(c:Bool):UInt64×Bool:=if g=11 then Ow x y c else Rc x y c
def nu{d e a b c:Nat}(g:z=11∨z=12):S9 sz (Py z d e a b c) s=some ((s.put d (Xo z (s.r a) (s.r b) (decide (s.r c%2=1))).1).put e (Qh (Xo z (s.r a) (s.r b) (decide (s.r c%2=1))).2)):=by
 rcases g with rfl|rfl
 ·exact zob
 ·exact lr
def jh(D:z=11∨z=12){v:Nat}{x y:UInt64}{c:Bool}(h:Uc z g v j A c.toNat):Uc z (g*18446744073709551616) (v+(Xo z x y c).1.toNat*g) (j+x.toNat*g) (A+y.toNat*g) (Xo z x y c).2.toNat:=by
 rcases D with rfl|rfl
 ·have k:=yi x y c;have e:Xo 11 x y c=Ow x y c:=rfl;rw[e];simp only[Uc,M5]at h ⊢;generalize (Ow x y c).1.toNat=r at *;generalize (Ow x y c).2.toNat=B at *;have E:g*(r+18446744073709551616*B)=g*(x.toNat+y.toNat+c.toNat):=by rw[k]
  grind
 ·have k:=il x y c;have e:Xo 12 x y c=Rc x y c:=rfl;rw[e];have C:¬(12:Int)=11:=Ac
  simp only[Uc,J2 C]at h ⊢;generalize (Rc x y c).1.toNat=r at *;generalize (Rc x y c).2.toNat=B at *;have E:g*(r+y.toNat+c.toNat)=g*(x.toNat+18446744073709551616*B):=by rw[k]
  grind
def zeo(L:B=11∨B=12){keep:Bool}{D n:Nat}{to a b:Pn}(hR:s.r A=0)(hD:D<A)(ha:a.in_ sz)(hb:b.in_ sz)(hn:n<18446744073709551616)(Y:keep=true→to.in_ sz∧n≤to.k∧cd to a∧cd to b) :
  Tx sz (S7 B to.p a.p b.p n keep A D) s λO=>RgC A D s O∧(keep=false→O.m=s.m)∧(keep=true→Qb to s.m O.m)∧∃(c:Bool) (v:Nat),v<18446744073709551616^n∧O.r (A+1)=Qh c∧(keep=true→vl (pl O.m to) n=v)∧Uc B (18446744073709551616^n) v (vl (rl s.m a) n) (vl (rl s.m b) n) c.toNat:=by
 have e2:Ye n a.p.size b.p.size=[((0:Nat):Int),((min (min a.k b.k) n:Nat):Int),((min (max a.k b.k) n:Nat):Int),((n:Nat):Int)]:=by
  show [(0:Int),min (min (a.k:Int) b.k) n,min (max (a.k:Int) b.k) n,(n:Int)]=_;rw[(J:min (min (a.k:Int) b.k) n=((min (min a.k b.k) n:Nat):Int)),(J:min (max (a.k:Int) b.k) n=((min (max a.k b.k) n:Nat):Int))];rfl
 have e1:cK ((A:Int)+1) 0=cK ((A+1:Nat):Int) 0:=rfl;unfold S7;rw[e2,e1];refine .op af ?_;rw[show ∀g:Fr Lo,Fr.cat (Pr []) g=g from λ_=>rfl];refine Tx.mono (sw (x:=0) (y:=min (min a.k b.k) n) (z:=min (max a.k b.k) n) (n:=n) (I:=λZ E=>RgC A D s E∧(keep=false→E.m=s.m)∧(keep=true→Qb to s.m E.m)∧(∀i,Z≤i→rl E.m a i=rl s.m a i)∧(∀i,Z≤i→rl E.m b i=rl s.m b i)∧∃(c:Bool) (v:Nat),v<18446744073709551616^Z∧E.r (A+1)=Qh c∧(keep=true→vl (pl E.m to) Z=v)∧Uc B (18446744073709551616^Z) v (vl (rl s.m a) Z) (vl (rl s.m b) Z) c.toNat)
  J J J J ⟨λM X _=>by rw[R7,J2 J],λ_=>rfl,λ_ _ _ _=>rfl,λ_ _=>rfl,λ_ _=>rfl,false,0,N,by simp[R7,Qh],λ_=>by simp[vl],by simp[Uc,vl]⟩ λC nx i E gD hi gF ⟨g1,u1,o1,ka,kb,c,v,l1,c1,w1,v1⟩=>?_) λO ⟨h1,h2,h3,_,_,c,v,h4,h5,h6,h7⟩=>⟨h1,h2,h3,c,v,h4,h5,h6,h7⟩
 have gG:i<n:=J
 have gg:C<a.k→C+(i-C)<a.k:=λ_=>J
 have gA:C<b.k→C+(i-C)<b.k:=λ_=>J
 have q0:¬A=D:=J
 have q1:¬D=A+1:=J
 have q2:¬D=A+2:=J
 have q3:¬D=A+3:=J
 have q4:¬D=A+4:=J
 have P:E.r A=0:=by rw[g1 A J J,hR]
 have Q:C+(i-C)=i:=J
 have F:(UInt64.ofNat (i-C)).toNat=i-C:=zjf J;have eb:Yf B to.p a.p b.p keep A D C=Sq a.p A ((A+2:Nat):Int) D C::Sq b.p A ((A+3:Nat):Int) D C::Py B ((A+4:Nat):Int) ((A+1:Nat):Int) ((A+2:Nat):Int) ((A+3:Nat):Int) ((A+1:Nat):Int)::(if keep=true then [P2 to.p D C ((A+4:Nat):Int)] else []):=rfl;rw[eb];refine .op (zoj (j:=i-C) ha (by simp[R7,q0,P]) (by simp[R7,F]) gg) (.op (zoj (j:=i-C) hb (by simp[R7,q0,P]) (by simp[R7,q2,F]) gA) (.op (nu L) ?_));rw[Q];have hA:=ka i (J4 _);have hB:=kb i (J4 _);simp only[zrv,hA,hB];have R:=jh L (x:=rl s.m a i) (y:=rl s.m b i) v1;have r3:((((E.put D (UInt64.ofNat (i-C))).put (A+2) (rl s.m a i)).put (A+3) (rl s.m b i)).r (A+1))=Qh c:=by simp[R7,Ne.symm q1,c1]
 have r2:((((E.put D (UInt64.ofNat (i-C))).put (A+2) (rl s.m a i)).put (A+3) (rl s.m b i)).r (A+2))=rl s.m a i:=Hi
 have r4:((((E.put D (UInt64.ofNat (i-C))).put (A+2) (rl s.m a i)).put (A+3) (rl s.m b i)).r (A+3))=rl s.m b i:=Hi
 rw[r2,r3,r4,cw c];generalize Xo B (rl s.m a i) (rl s.m b i) c=pc at *;obtain⟨p,G⟩:=pc;simp only at R ⊢;have hv:v+p.toNat*18446744073709551616^i<18446744073709551616^(i+1):=by
  have h3:=Ki (18446744073709551616^i) (show p.toNat+1≤18446744073709551616 from p.toNat_lt);rw[Ku,Oe]at h3;rw[Mv,Mo (18446744073709551616^i)];omega
 have K:Uc B (18446744073709551616^(i+1)) (v+p.toNat*18446744073709551616^i) (vl (rl s.m a) (i+1)) (vl (rl s.m b) (i+1)) G.toNat:=by
  rw[Mv,Zz,Zz];exact R
 have T:∀M,¬(A+1≤M∧M≤A+4)→M≠D→(((((E.put D (UInt64.ofNat (i-C))).put (A+2) (rl s.m a i)).put (A+3) (rl s.m b i)).put (A+4) p).put (A+1) (Qh G)).r M=s.r M:=λM X H=>by
  have z1:¬M=A+1:=J
  have z2:¬M=A+2:=J
  have z3:¬M=A+3:=J
  have z4:¬M=A+4:=J
  simp only[R7,z1,z2,z3,z4,H,Mz];exact g1 M X H
 have U:(((((E.put D (UInt64.ofNat (i-C))).put (A+2) (rl s.m a i)).put (A+3) (rl s.m b i)).put (A+4) p).put (A+1) (Qh G)).r D=UInt64.ofNat (i-C):=by simp[R7,q1,q2,q3,q4]
 have gB:(((((E.put D (UInt64.ofNat (i-C))).put (A+2) (rl s.m a i)).put (A+3) (rl s.m b i)).put (A+4) p).put (A+1) (Qh G)).r (A+4)=p:=Hi
 have V:(((((E.put D (UInt64.ofNat (i-C))).put (A+2) (rl s.m a i)).put (A+3) (rl s.m b i)).put (A+4) p).put (A+1) (Qh G)).r (A+1)=Qh G:=Hi
 have hm:(((((E.put D (UInt64.ofNat (i-C))).put (A+2) (rl s.m a i)).put (A+3) (rl s.m b i)).put (A+4) p).put (A+1) (Qh G)).m=E.m:=rfl;generalize ((((E.put D (UInt64.ofNat (i-C))).put (A+2) (rl s.m a i)).put (A+3) (rl s.m b i)).put (A+4) p).put (A+1) (Qh G)=s2 at *;cases keep with
 |false =>
  refine .nil ⟨T,λ_=>hm.trans (u1 rfl),(λh=>Af),λk L=>by rw[hm];exact ka k J,λk L=>by rw[hm];exact kb k J,G,_,hv,V,(λh=>Af),K⟩
 |true =>
  obtain⟨⟨gH,gC⟩,gI,da,db⟩:=Y rfl;refine .op (zkq (p:=to) (off:=C) (by rw[U,F];omega) gC) (.nil ?_);rw[U,F,Q,gB];refine⟨λM X H=>by rw[znq];exact T M X H,(λh=>Af),λ_=>(o1 rfl).trans (hm ▸ za0 J),λk L=>?_,λk L=>?_,G,_,hv,by rw[znq];exact V,λ_=>?_,K⟩
  ·rw[←ka k J];unfold rl;split
   ·rw[da.sto J J J,hm]
   ·rfl
  ·rw[←kb k J];unfold rl;split
   ·rw[db.sto J J J,hm]
   ·rfl
  ·rw[Zz,ue,J8 rfl,←w1 rfl,Zh (g:=pl E.m to) λk L=>by rw[ue,J2 J,hm]]
def qm(Y:s.r g=0)(hD:A<g)(K:X.in_ sz)(Z:uZ.in_ sz)(df:cd X uZ) :
  Tx sz (R1 X.p uZ.p g A) s λF=>(∀D,D≠g+2→D≠A→F.r D=s.r D)∧Qb X s.m F.m∧∀i,i<X.k→pl F.m X i=rl s.m uZ i:=by
 obtain⟨gg,L⟩:=K;have e2:Yl X.p.size uZ.p.size=[((0:Nat):Int),((min uZ.k X.k:Nat):Int),((X.k:Nat):Int)]:=by
  show [(0:Int),min (uZ.k:Int) X.k,(X.k:Int)]=_;rw[(J:min (uZ.k:Int) X.k=((min uZ.k X.k:Nat):Int))];rfl
 unfold R1;rw[e2];refine Tx.mono (jc (x:=0) (y:=min uZ.k X.k) (n:=X.k) (I:=λj B=>(∀D,D≠g+2→D≠A→B.r D=s.r D)∧Qb X s.m B.m∧(∀i,j≤i→rl B.m uZ i=rl s.m uZ i)∧∀i,i<j→pl B.m X i=rl s.m uZ i)
  J J J ⟨λ_ _ _=>rfl,λ_ _ _=>rfl,λ_ _=>rfl,λi hi=>J⟩ λz nx i B gA hi gB ⟨T,o1,U,v1⟩=>?_) λF ⟨h1,h2,_,h4⟩=>⟨h1,h2,h4⟩
 have gC:i<X.k:=J
 have M:z<uZ.k→z+(i-z)<uZ.k:=λ_=>J
 have q0:¬g=A:=J
 have V:¬A=g+2:=J
 have O:B.r g=0:=by rw[T g J J,Y]
 have E:z+(i-z)=i:=J
 have C:(UInt64.ofNat (i-z)).toNat=i-z:=zjf J;have eb:Zj X.p uZ.p g A z=[Sq uZ.p g ((g+2:Nat):Int) A z,P2 X.p A z ((g+2:Nat):Int)]:=rfl;rw[eb];have hA:=U i (J4 _);refine .op (zoj (j:=i-z) Z (by simp[R7,q0,O]) (by simp[R7,C]) M) (.op (zkq (p:=X) (off:=z) (by simp only[R7,J2 V,M5,C];omega) L) (.nil ?_));rw[E,zrv,hA];have P:(((B.put A (UInt64.ofNat (i-z))).put (g+2) (rl s.m uZ i)).r A)=UInt64.ofNat (i-z):=by simp[R7,V]
 have Q:(((B.put A (UInt64.ofNat (i-z))).put (g+2) (rl s.m uZ i)).r (g+2))=rl s.m uZ i:=Hi
 have hm:(((B.put A (UInt64.ofNat (i-z))).put (g+2) (rl s.m uZ i)).m)=B.m:=rfl;have R:∀D,D≠g+2→D≠A→(((B.put A (UInt64.ofNat (i-z))).put (g+2) (rl s.m uZ i)).r D)=s.r D:=λD G H=>by
  simp only[R7,G,H,Mz];exact T D G H
 generalize ((B.put A (UInt64.ofNat (i-z))).put (g+2) (rl s.m uZ i))=s2 at *;rw[P,C,E,Q];refine⟨λD G H=>by rw[znq];exact R D G H,o1.trans (hm ▸ za0 J),λk hk=>?_,λk hk=>?_⟩
 ·rw[←U k J];unfold rl;split
  ·rw[df.sto J J J,hm]
  ·rfl
 ·rw[ue];split
  ·rename_i e;rw[e]
  ·rw[hm];exact v1 k J
end ex
end
end
section
noncomputable section
set_option linter.unusedSimpArgs false
def Rq(g b:Pc)(R j:Int):List Lo :=
 [Qw (R+5) b (j+1) 0,Rr (R+4) (R+5) (R+2) (R+5),Pd 3 8 j (j+1),Qw (R+6) g 8 0,Py 11 (R+5) (R+1) (R+5) (R+6) R,Pd 3 (R+4) (R+4) (R+1),Py 11 (R+5) (R+1) (R+5) (R+3) R,Pd 3 (R+3) (R+4) (R+1),P2 g 8 0 (R+5)]
def Xg(g a b:Pc)(R j:Int):Fr Lo:=(Pr [Qw (R+2) a j 0,cK (R+3) 0]).cat ((Rs (j+1) b.size (Pr (Rq g b R j))).cat (Pr [P2 g j b.size (R+3)]))
def Rl(g a b:Pc)(z j:Int):Fr Lo:=(Vx g z j).cat (Rs j a.size (Xg g a b z j))
def cr(z A:Nat)(s j:Fs):Prop:=∀g,¬(z+1≤g∧g≤z+6)→g≠8→g≠A→g≠A+1→j.r g=s.r g
def cr.trans{R D:Nat}{s s' gg:Fs}(h:cr R D s s')(k:cr R D s' gg):cr R D s gg:=λz a b c d=>(k z a b c d).trans (h z a b c d)
def ziy(f:Nat→UInt64)(i:Nat):∀n,vl f (i+n)=vl f i+18446744073709551616^i*vl (λt=>f (i+t)) n
 |0=>by simp[vl]
 |n+1=>by
  rw[←Ly,Zz,ziy f i n,Zz,Nk]
  grind
section ex
variable {sz : Nat → Nat} {s : Fs}
def ym{R i j:Nat}{b:Pn}(Q:s.r R=0)(hD:g+1<8)(T:8<R)(hi:(s.r g).toNat=i)(D:(s.r (g+1)).toNat=j)(U:b.in_ sz)(V:X.in_ sz)(jb:j<b.k)(jt:i+j<X.k) :
  Tx sz (Pr (Rq X.p b.p R g)) s λC=>∃q:UInt64,(∀t,pl C.m X t=if t=i+j then q else pl s.m X t)∧Qb X s.m C.m∧(∀z,¬(R+1≤z∧z≤R+6)∨z=R+2→z≠8→C.r z=s.r z) ∧
   q.toNat+18446744073709551616*(C.r (R+3)).toNat=(s.r (R+2)).toNat*(pl s.m b j).toNat+(pl s.m X (i+j)).toNat+(s.r (R+3)).toNat:=by
 obtain⟨Y,E⟩:=U;obtain⟨Z,A⟩:=V;have e:Rq X.p b.p R g=[Qw ((R+5:Nat):Int) b.p ((g+1:Nat):Int) ((0:Nat):Int),Rr ((R+4:Nat):Int) ((R+5:Nat):Int) ((R+2:Nat):Int) ((R+5:Nat):Int),Pd 3 ((8:Nat):Int) (g:Nat) ((g+1:Nat):Int),Qw ((R+6:Nat):Int) X.p ((8:Nat):Int) ((0:Nat):Int),
  Py 11 ((R+5:Nat):Int) ((R+1:Nat):Int) ((R+5:Nat):Int) ((R+6:Nat):Int) (R:Nat),Pd 3 ((R+4:Nat):Int) ((R+4:Nat):Int) ((R+1:Nat):Int),Py 11 ((R+5:Nat):Int) ((R+1:Nat):Int) ((R+5:Nat):Int) ((R+3:Nat):Int) (R:Nat),Pd 3 ((R+3:Nat):Int) ((R+4:Nat):Int) ((R+1:Nat):Int),P2 X.p ((8:Nat):Int) ((0:Nat):Int) ((R+5:Nat):Int)]:=rfl
 rw[e];have F:¬g=R+5:=J
 have G:¬g+1=R+5:=J
 have H:¬g=R+4:=J
 have I:¬g+1=R+4:=J
 have q4:¬R=8:=J
 have x1:¬R+5=8:=J
 have K:¬8=R+5:=J
 have L:¬8=R+4:=J
 have M:¬8=R+6:=J
 have O:¬8=R+1:=J
 have P:¬8=R+3:=J
 have x7:¬R+4=8:=J
 have x8:¬R+3=8:=J
 have x9:¬g=R+3:=J
 have B:(s.r g+s.r (g+1)).toNat=i+j:=by rw[Md,hi,D];exact Kt J
 refine .op (zqc (p:=b) (by rw[D];omega) E) (.op m9 (.op zon (.op (zqc (p:=X) ?_ A) (.op zob (.op zon (.op zob (.op zon (.op (zkq (p:=X) ?_ A) (.nil ?_)))))))))
 ·simp only[R7,M5,F,G,H,I,Mz];rw[B];omega
 ·simp only[R7,M5,F,G,H,I,K,L,M,O,P,Mz];rw[B];omega
 simp[R7,zrv,F,G,H,I,q4,x1,K,L,M,O,P,x7,x8,x9,Q,B,D,-UInt64.toNat_add];refine⟨_,λt=>ue X _ (i+j) t _,?_,λz hz B=>?_,?_⟩
 ·intro x y hn;exact za0 (p:=X) (s:=s) (i:=i+j) J x y hn
 ·have z1:¬z=R+1:=J
  have z3:¬z=R+3:=J
  have z4:¬z=R+4:=J
  have z5:¬z=R+5:=J
  have z6:¬z=R+6:=J
  simp[znq,R7,z1,z3,z4,z5,z6,B]
 ·simp[znq,R7,-UInt64.toNat_add];exact ng (x:=s.r (R+2)) (y:=pl s.m b j) (w:=pl s.m X (i+j)) (m:=s.r (R+3)) rfl rfl rfl rfl rfl rfl
def rh{R i:Nat}{a b:Pn}(hR:s.r R=0)(hD:A+1<8)(P:8<R)(hi:(s.r A).toNat=i)(ha:a.in_ sz)(hb:b.in_ sz)(G:X.in_ sz)(ia:i<a.k)(it:i+b.k<X.k)(db:Dj X b) :
  Tx sz (Xg X.p a.p b.p R A) s λI=>(∀B,¬(R+1≤B∧B≤R+6)→B≠8→B≠A+1→I.r B=s.r B)∧Qb X s.m I.m∧(∀t,t<i→pl I.m X t=pl s.m X t) ∧
   vl (λt=>pl I.m X (i+t)) (b.k+1)=vl (λt=>pl s.m X (i+t)) b.k+(pl s.m a i).toNat*vl (pl s.m b) b.k:=by
 have Q:=hb;have T:=G;obtain⟨gg,U⟩:=ha;obtain⟨gA,gB⟩:=hb;obtain⟨gC,V⟩:=G;have e:Xg X.p a.p b.p R A=(Pr [Qw ((R+2:Nat):Int) a.p (A:Nat) ((0:Nat):Int),cK ((R+3:Nat):Int) 0]).cat ((Rs ((A+1:Nat):Int) (b.k:Nat) (Pr (Rq X.p b.p R A))).cat (Pr [P2 X.p (A:Nat) (b.k:Nat) ((R+3:Nat):Int)])):=rfl;rw[e];refine .op (zqc (p:=a) (by rw[hi];omega) U) (.op af ?_);rw[show ∀g:Fr Lo,Fr.cat (Pr []) g=g from λ_=>rfl,hi,Kw];generalize D:(Fs.put (s.put (R+2) (pl s.m a i)) (R+3) 0)=H;have m0:H.m=s.m:=by rw[←D];rfl
 have y0:H.r (R+2)=pl s.m a i:=by rw[←D];simp[R7]
 have c0:H.r (R+3)=0:=by rw[←D];simp[R7]
 have Y:∀B,B≠R+2→B≠R+3→H.r B=s.r B:=λB K Z=>by rw[←D];simp[R7,K,Z]
 refine .cat (R:=λz=>(∀B,¬(R+1≤B∧B≤R+6)→B≠8→B≠A+1→z.r B=s.r B)∧Qb X s.m z.m∧(∀t,t<i∨i+b.k≤t→pl z.m X t=pl s.m X t)∧vl (λt=>pl z.m X (i+t)) b.k+18446744073709551616^b.k*(z.r (R+3)).toNat=vl (λt=>pl s.m X (i+t)) b.k+(pl s.m a i).toNat*vl (pl s.m b) b.k) ?_ λz ⟨L,M,O,v1⟩=>?_
 ·refine .lp (λF z=>(∀B,¬(R+1≤B∧B≤R+6)∨B=R+2→B≠8→B≠A+1→z.r B=H.r B)∧Qb X s.m z.m∧(∀t,t<i∨i+F≤t→pl z.m X t=pl s.m X t)∧vl (λt=>pl z.m X (i+t)) F+18446744073709551616^F*(z.r (R+3)).toNat=vl (λt=>pl s.m X (i+t)) F+(pl s.m a i).toNat*vl (pl s.m b) F) ⟨λ_ _ _ _=>rfl,λ_ _ _=>by rw[m0],λ_ _=>by rw[m0],by simp[vl,c0]⟩ J (λF z hj ⟨L,M,O,v1⟩=>?_) λz ⟨h1,K,Z,h4⟩=>⟨λB hz h8 hd=>(h1 B (.inl hz) h8 hd).trans (Y B J J),K,Z,h4⟩
  have E:∀B,¬(R+1≤B∧B≤R+6)∨B=R+2→B≠8→B≠A+1→(z.put (A+1) (UInt64.ofNat F)).r B=H.r B:=λB a b c=>by rw[R7,J2 c,L B a b c]
  have j3:(z.put (A+1) (UInt64.ofNat F)).r (R+3)=z.r (R+3):=by rw[R7,J2 J]
  have C:((z.put (A+1) (UInt64.ofNat F)).r A).toNat=i:=by rw[E A J J J,Y A J J,hi]
  refine Tx.mono (ym (i:=i) (j:=F) (by rw[E R J J J,Y R J J,hR]) hD P C (by rw[R7,J8 rfl];exact zjf J) Q T hj J) λs2 ⟨q,e1,e2,e3,e4⟩=>⟨λB a b c=>(e3 B a b).trans (E B a b c),M.trans e2,λt G=>?_,?_⟩
  ·rw[e1,J2 J];exact O t J
  ·rw[E (R+2) (.inr rfl) J J,zrv,M.pl db hj,O (i+F) J,j3,y0]at e4;rw[Zz,Zz,Zz,Mv];rw[e1,J8 rfl,Zh (g:=λt=>pl z.m X (i+t)) λt G=>by rw[e1,J2 J];rfl];generalize vl (λt=>pl z.m X (i+t)) F=gF at *;generalize vl (λt=>pl s.m X (i+t)) F=gG at *;generalize vl (pl s.m b) F=gH at *;generalize 18446744073709551616^F=gD at *;have K:gD*(q.toNat+18446744073709551616*(s2.r (R+3)).toNat)=gD*((pl s.m a i).toNat*(pl s.m b F).toNat+(pl s.m X (i+F)).toNat+(z.r (R+3)).toNat):=by rw[e4]
   grind
 ·have C:(z.r A).toNat=i:=by rw[L A J J J,hi]
  refine .op (zkq (p:=X) (by rw[C];omega) V) (.nil ⟨λB hz h8 hd=>by rw[znq];exact L B hz h8 hd,?_,λt G=>?_,?_⟩)
  ·rw[C];exact M.trans (za0 J)
  ·rw[C,ue,J2 J];exact O t (.inl G)
  ·rw[C,Zz];rw[ue,J8 J,Zh (g:=λt=>pl z.m X (i+t)) λt G=>by rw[ue,J2 J],Mo (z.r (R+3)).toNat];exact v1
def zn9{D:Nat}{to a b:Pn}(M:s.r j=0)(U:D+1<8)(F:8<j)(G:a.in_ sz)(V:b.in_ sz)(A:to.in_ sz)(X:to.k=a.k+b.k)(Y:Dj to a)(O:Dj to b) :
  Tx sz (Rl to.p a.p b.p j D) s λH=>cr j D s H∧Qb to s.m H.m∧vl (pl H.m to) to.k=vl (pl s.m a) a.k*vl (pl s.m b) b.k:=by
 unfold Rl;refine .cat (pu A J) λZ ⟨g0,o0,f0⟩=>?_
 have e:Rs (D:Int) a.p.size (Xg to.p a.p b.p j D)=Rs (D:Nat) (a.k:Nat) (Xg to.p a.p b.p j D):=rfl;rw[e];have gg:=G.1;have gA:=G.2;refine .lp (λi z=>cr j D s z∧Qb to s.m z.m∧vl (pl z.m to) (i+b.k)=vl (pl s.m a) i*vl (pl s.m b) b.k) ⟨λT _ _ hz _=>g0 T hz,o0,?_⟩ J (λi z hi ⟨P,I,v1⟩=>?_) λz ⟨B,C,E⟩=>⟨B,C,by rw[X];exact E⟩
 ·rw[Kw,vl,Mn];have:∀n,n≤b.k→vl (pl Z.m to) n=0:=λn hn=>by
   induction n with
   |zero=>rfl
   |succ n ih=>rw[Zz,ih J,f0 n J,M];simp
  exact this _ (J4 _)
 ·have K:((z.put D (UInt64.ofNat i)).r D).toNat=i:=by rw[R7,J8 rfl];exact zjf J
  refine Tx.mono (rh (i:=i) (by rw[R7,J2 J,P j J J J J,M]) U F K G V A hi J O) λs2 ⟨e1,e2,Q,L⟩=>⟨λT B C E R=>?_,I.trans e2,?_⟩
  ·rw[e1 T B C R,R7,J2 E];exact P T B C E R
  ·rw[zrv]at L Q;rw[I.pl Y hi,I.vl O (J4 _)]at L;rw[ziy]at v1;rw[(J:i+1+b.k=i+(b.k+1)),ziy,L,Zz,Zh (g:=pl z.m to) λt A=>Q t A];generalize vl (λt=>pl z.m to (i+t)) b.k=gB at *;generalize vl (pl z.m to) i=gC at *;generalize vl (pl s.m b) b.k=gD at *;generalize vl (pl s.m a) i=gF at *;generalize 18446744073709551616^i=gG at *
   grind
end ex
end
end
section
set_option linter.unusedSimpArgs false
def sa(f:Nat→UInt64){n m:Nat}(h:n≤m):vl f n=vl f m%18446744073709551616^n:=by
 obtain⟨k,rfl⟩:∃k,m=n+k:=⟨m-n,J⟩;rw[ziy,Nat.add_mul_mod_self_left,Kt (Yu _ _)]
def qq{m:Nat→Nat→UInt64}{p:Pn}{n:Nat}:vl (rl m p) n=vl (pl m p) p.k%18446744073709551616^n:=by
 by_cases h:n≤p.k
 ·rw[i6 h,sa _ h]
 ·rw[f9 J,Kt];exact Kr (Yu _ _) (Ls Ac J)
def Ol(p:Pn)(x k:Nat):Pn:=⟨p.b,p.a+x,k⟩
noncomputable def Ts(d a b w:Pn)(n R D:Nat):Fr Lo :=
 let h:=n/2;let m:=n-n/2
 if h=0 then (Rl (Ol w 0 (2*n)).p a.p b.p R D).cat (R1 d.p (Ol w 0 (2*n)).p R D)
 else (Rl (Ol w 0 (2*h)).p (Ol a 0 h).p (Ol b 0 h).p R D).cat ((Rl (Ol w (2*h) (2*m)).p (Ol a h m).p (Ol b h m).p R D).cat
  ((S7 11 (Ol w (2*n) (m+1)).p (Ol a 0 h).p (Ol a h m).p (m+1:Nat) true R D).cat ((S7 11 (Ol w (2*n+(m+1)) (m+1)).p (Ol b 0 h).p (Ol b h m).p (m+1:Nat) true R D).cat
  ((Rl (Ol w (2*n+2*(m+1)) (2*(m+1))).p (Ol w (2*n) (m+1)).p (Ol w (2*n+(m+1)) (m+1)).p R D).cat
  ((S7 12 (Ol w (2*n+2*(m+1)) (2*(m+1))).p (Ol w (2*n+2*(m+1)) (2*(m+1))).p (Ol w 0 (2*h)).p (2*(m+1):Nat) true R D).cat
  ((S7 12 (Ol w (2*n+2*(m+1)) (2*(m+1))).p (Ol w (2*n+2*(m+1)) (2*(m+1))).p (Ol w (2*h) (2*m)).p (2*(m+1):Nat) true R D).cat
  ((S7 11 (Ol w h (2*n-h)).p (Ol w h (2*n-h)).p (Ol w (2*n+2*(m+1)) (2*(m+1))).p (2*n-h:Nat) true R D).cat
  (R1 d.p (Ol w 0 (2*n)).p R D))))))))
section ex
variable {sz : Nat → Nat} {s : Fs}
def RgC.p{R D:Nat}{s s':Fs}(h:RgC R D s s'):cr R D s s':=λz h1 _ h3 _=>h z J h3
def zcw{D n:Nat}{to a b:Pn}(C:s.r g=0)(E:D<g)(F:a.in_ sz)(G:b.in_ sz)(z:to.in_ sz)(H:n=to.k)(I:cd to a)(K:cd to b)(P:vl (pl s.m a) a.k+vl (pl s.m b) b.k<18446744073709551616^n) :
  Tx sz (S7 11 to.p a.p b.p n true g D) s λj=>cr g D s j∧Qb to s.m j.m∧vl (pl j.m to) to.k=vl (pl s.m a) a.k+vl (pl s.m b) b.k:=by
 have L:n<18446744073709551616:=by have:=z.1;have:=z.2;omega
 refine (zeo (.inl rfl) (keep:=true) C E F G L λ_=>⟨z,J,I,K⟩).mono λj ⟨M,_,O,c,v,Q,_,A,B⟩=>⟨M.p,O rfl,?_⟩
 have A:=A rfl;rw[Uc,J8 rfl,qq,qq,Kt J,Kt J]at B;rw[←H,A];cases c with
 |false=>simpa using B
 |true=>simp at B;omega
def zm7{n:Nat}{to a b:Pn}(E:s.r g=0)(F:j<g)(G:a.in_ sz)(H:b.in_ sz)(A:to.in_ sz)(I:n=to.k)(B:a.k≤n)(K:cd to a)(L:cd to b)(R:vl (pl s.m b) b.k≤vl (pl s.m a) a.k) :
  Tx sz (S7 12 to.p a.p b.p n true g j) s λz=>cr g j s z∧Qb to s.m z.m∧vl (pl z.m to) to.k+vl (pl s.m b) b.k=vl (pl s.m a) a.k:=by
 have M:n<18446744073709551616:=by have:=A.1;have:=A.2;omega
 refine (zeo (.inr rfl) (keep:=true) E F G H M λ_=>⟨A,J,K,L⟩).mono λz ⟨O,_,P,c,v,T,_,C,D⟩=>⟨O.p,P rfl,?_⟩
 have C:=C rfl;have Q:vl (pl s.m a) a.k<18446744073709551616^n:=Kr (Yu _ _) (Ls Ac B);rw[Uc,J2 Ac,qq,qq,Kt J,Kt J]at D;rw[←I,C];cases c with
 |false=>simpa using D
 |true=>simp at D;omega
def zj1{D:Nat}{to fr:Pn}(A:s.r g=0)(B:D<g)(z:to.in_ sz)(C:fr.in_ sz)(E:cd to fr) :
  Tx sz (R1 to.p fr.p g D) s λj=>cr g D s j∧Qb to s.m j.m∧vl (pl j.m to) to.k=vl (pl s.m fr) fr.k%18446744073709551616^to.k:=by
 refine (qm A B z C E).mono λj ⟨F,G,H⟩=>⟨λI a _ c _=>F I J c,G,?_⟩
 rw[←qq];exact Zh H
def zw2{mid D F G V E:Nat}(z:Z=g*A)(B:vI=j*M)(C:mid=(g+j)*(A+M))(H:uY+Z=mid)(I:D+vI=uY)(K:F+E*G=Z+E*E*vI)(L:V=G+D):F+E*V=(g+E*j)*(A+E*M):=by
 have O:D=g*M+j*A:=by
  have:D+(j*M+g*A)=g*M+j*A+(j*M+g*A):=by
   rw[←B,←z,←Ly,I,H,C,z,B];grind
  omega
 rw[L,O,Nf,←Ly,K,z,B]
 grind
def ye{D n:Nat}{d a b w:Pn}(hR:s.r g=0)(hD:D+1<8)(K:8<g)(ha:a.in_ sz)(hb:b.in_ sz)(hd:d.in_ sz)(hw:w.in_ sz)(gI:a.k=n)(gK:b.k=n)(hn:1≤n)(gL:2*n+4*(n-n/2+1)≤w.k)(G:w.b≠a.b)(H:w.b≠b.b)(wd:w.b≠d.b) :
  Tx sz (Ts d a b w n g D) s λs'=>cr g D s s'∧Fm [w,d] s.m s'.m∧vl (pl s'.m d) d.k=vl (pl s.m a) a.k*vl (pl s.m b) b.k%18446744073709551616^d.k:=by
 have j:∀x k,x+k≤w.k→(Ol w x k).in_ sz:=λx k h=>by
  obtain⟨h1,h2⟩:=hw;exact⟨by show w.a+x+k≤sz w.b;omega,h2⟩
 have z:∀x k,x+k≤w.k→∀{m X:Nat→Nat→UInt64},Qb (Ol w x k) m X→Fm [w,d] m X:=λx k h m X o=>λu v hn=>o u v λ⟨q1,q2,q3⟩=>hn w N ⟨q1,by have:w.a+x≤v:=q2;omega,by have:v<w.a+x+k:=q3;omega⟩
 have jU:∀{m X:Nat→Nat→UInt64} (q:Pn),w.b≠q.b→(∀x k,Qb (Ol w x k) m X→∀c,c≤q.k→vl (pl X q) c=vl (pl m q) c):=λ{m X} q E x k o c Y=>o.vl (.inl E) Y
 have B:D<g:=J
 unfold Ts;simp only;by_cases h0:n/2=0
 ·rw[J8 h0];refine .cat (zn9 (to:=Ol w 0 (2*n)) hR hD K ha hb (j _ _ J) (by show 2*n=_;omega) (.inl G) (.inl H)) λs1 ⟨g1,o1,v1⟩=>?_
  have L:s1.r g=0:=by rw[g1 g J J J J,hR]
  refine (zj1 L B hd (j _ _ J) (.inl (.inl (Ne.symm wd)))).mono λs2 ⟨g2,o2,v2⟩=>⟨g1.trans g2,(z _ _ J o1).trans (o2.fm N),?_⟩
  rw[v2,v1]
 rw[J2 h0];have hh:1≤n/2:=J
 obtain⟨h,jG⟩:∃h,n/2=h:=⟨_,rfl⟩;obtain⟨m,jH⟩:∃m,n-h=m:=⟨_,rfl⟩;rw[jG]at hh gL ⊢;rw[jH]at gL ⊢;have Z:h≤m∧m≤h+1∧h+m=n:=J
 have A:∀(q:Pn) x k,q.in_ sz→x+k≤q.k→(Ol q x k).in_ sz:=λq x k E h=>by
  obtain⟨h1,h2⟩:=E;exact⟨by show q.a+x+k≤sz q.b;omega,h2⟩
 have W0:0<18446744073709551616^h:=Nat.pos_of_ne_zero N;have sp:∀(q:Pn) (f:Nat→Nat→UInt64),q.k=n→vl (pl f q) q.k=vl (pl f (Ol q 0 h)) h+18446744073709551616^h*vl (pl f (Ol q h m)) m:=λq f E=>by
  have e:vl (λt=>pl f q (h+t)) m=vl (pl f (Ol q h m)) m:=Zh λi _=>by
   show f q.b (q.a+(h+i))=f q.b (q.a+h+i);rw[Ly]
  rw[E,←Z.2.2,ziy,e];rfl
 have gg:∀(f:Nat→Nat→UInt64) (x k l:Nat),vl (pl f (Ol w x (k+l))) (k+l)=vl (pl f (Ol w x k)) k+18446744073709551616^k*vl (pl f (Ol w (x+k) l)) l:=λf x k l=>by
  rw[ziy]
  congr 2
  refine Zh λi _=>?_
  show f w.b (w.a+x+(k+i))=f w.b (w.a+(x+k)+i)
  congr 1;omega
 have jI:vl (pl s.m (Ol a 0 h)) h<18446744073709551616^m:=Kr (Yu _ _) (Ls Ac Z.1);have jK:vl (pl s.m (Ol a h m)) m<18446744073709551616^m:=Yu _ _;have jL:vl (pl s.m (Ol b 0 h)) h<18446744073709551616^m:=Kr (Yu _ _) (Ls Ac Z.1);have jM:vl (pl s.m (Ol b h m)) m<18446744073709551616^m:=Yu _ _;have jO:=sp a s.m gI;have jP:=sp b s.m gK;have gA:vl (pl s.m a) a.k*vl (pl s.m b) b.k<18446744073709551616^(2*n):=by
  rw[(J:2*n=n+n),Nk];exact Nat.mul_lt_mul'' (by rw[gI];exact Yu _ _) (by rw[gK];exact Yu _ _)
 have gM:∀x y:Nat,x<18446744073709551616^m→y<18446744073709551616^m→x+y<18446744073709551616^(m+1):=λx y hx hy=>by rw[Mv];omega
 rw[jO,jP]at gA ⊢;refine .cat (zn9 (to:=Ol w 0 (2*h)) (a:=Ol a 0 h) (b:=Ol b 0 h) hR hD K (A a 0 h ha J) (A b 0 h hb J) (j _ _ J) (by show 2*h=h+h;omega) (.inl G) (.inl H)) λs1 ⟨g1,o1,v1⟩=>?_
 have L:s1.r g=0:=by rw[g1 g J J J J,hR]
 refine .cat (zn9 (to:=Ol w (2*h) (2*m)) (a:=Ol a h m) (b:=Ol b h m) L hD K (A a h m ha J) (A b h m hb J) (j _ _ J) (by show 2*m=m+m;omega) (.inl G) (.inl H)) λs2 ⟨g2,o2,v2⟩=>?_
 have gO:s2.r g=0:=by rw[g2 g J J J J,L]
 rw[o1.vl (q:=Ol a h m) (.inl G) (J4 _),o1.vl (q:=Ol b h m) (.inl H) (J4 _)]at v2;have f2:∀q:Pn,w.b≠q.b→∀c,c≤q.k→vl (pl s2.m q) c=vl (pl s.m q) c:=λq E c Y=>by rw[o2.vl (.inl E) Y,o1.vl (.inl E) Y]
 have gR:vl (pl s2.m (Ol w 0 (2*h))) (2*h)=_:=(o2.vl (.inr (.inr (by show w.a+0+2*h≤w.a+2*h;omega))) (J4 _)).trans v1;refine .cat (zcw (to:=Ol w (2*n) (m+1)) (a:=Ol a 0 h) (b:=Ol a h m) gO B (A a 0 h ha J) (A a h m ha J) (j _ _ J) rfl (.inl (.inl G)) (.inl (.inl G)) (by rw[f2 (Ol a 0 h) G _ (J4 _),f2 (Ol a h m) G _ (J4 _)];exact gM _ _ jI jK)) λs3 ⟨g3,o3,v3⟩=>?_
 have gT:s3.r g=0:=by rw[g3 g J J J J,gO]
 rw[f2 (Ol a 0 h) G _ (J4 _),f2 (Ol a h m) G _ (J4 _)]at v3;have f3:∀q:Pn,w.b≠q.b→∀c,c≤q.k→vl (pl s3.m q) c=vl (pl s.m q) c:=λq E c Y=>by rw[o3.vl (.inl E) Y,f2 q E c Y]
 refine .cat (zcw (to:=Ol w (2*n+(m+1)) (m+1)) (a:=Ol b 0 h) (b:=Ol b h m) gT B (A b 0 h hb J) (A b h m hb J) (j _ _ J) rfl (.inl (.inl H)) (.inl (.inl H)) (by rw[f3 (Ol b 0 h) H _ (J4 _),f3 (Ol b h m) H _ (J4 _)];exact gM _ _ jL jM)) λs4 ⟨g4,o4,v4⟩=>?_
 have gU:s4.r g=0:=by rw[g4 g J J J J,gT]
 rw[f3 (Ol b 0 h) H _ (J4 _),f3 (Ol b h m) H _ (J4 _)]at v4;have jQ:vl (pl s4.m (Ol w (2*n) (m+1))) (m+1)=_:=(o4.vl (.inr (.inr (by show w.a+2*n+(m+1)≤w.a+(2*n+(m+1));omega))) (J4 _)).trans v3;refine .cat (zn9 (to:=Ol w (2*n+2*(m+1)) (2*(m+1))) (a:=Ol w (2*n) (m+1)) (b:=Ol w (2*n+(m+1)) (m+1)) gU hD K (j _ _ J) (j _ _ J) (j _ _ J) (by show 2*(m+1)=(m+1)+(m+1);omega) (.inr (.inr (by show w.a+2*n+(m+1)≤w.a+(2*n+2*(m+1));omega))) (.inr (.inr (by show w.a+(2*n+(m+1))+(m+1)≤w.a+(2*n+2*(m+1));omega)))) λM ⟨g5,o5,v5⟩=>?_
 have gV:M.r g=0:=by rw[g5 g J J J J,gU]
 have v5:vl (pl M.m (Ol w (2*n+2*(m+1)) (2*(m+1)))) (2*(m+1))=vl (pl s4.m (Ol w (2*n) (m+1))) (m+1)*vl (pl s4.m (Ol w (2*n+(m+1)) (m+1))) (m+1):=v5;have v4:vl (pl s4.m (Ol w (2*n+(m+1)) (m+1))) (m+1)=vl (pl s.m (Ol b 0 h)) h+vl (pl s.m (Ol b h m)) m:=v4;rw[jQ,v4]at v5;have O:∀x k,x+k≤2*n→vl (pl M.m (Ol w x k)) k=vl (pl s2.m (Ol w x k)) k:=λx k hx =>
  (o5.vl (q:=Ol w x k) (n:=k) (.inr (.inr Db)) (J4 _)).trans ((o4.vl (q:=Ol w x k) (n:=k) (.inr (.inr (by show w.a+x+k≤w.a+(2*n+(m+1));omega))) (J4 _)).trans (o3.vl (q:=Ol w x k) (n:=k) (.inr (.inr (by show w.a+x+k≤w.a+2*n;omega))) (J4 _)))
 have C:vl (pl M.m (Ol w 0 (2*h))) (2*h)=_:=(O 0 (2*h) J).trans gR;have gB:vl (pl M.m (Ol w (2*h) (2*m))) (2*m)=_:=(O (2*h) (2*m) J).trans v2;have jR:∀x y jV t:Nat,x*jV≤(x+y)*(jV+t):=λx y jV t=>Lw J J
 obtain⟨A0,gX⟩:∃A0,vl (pl s.m (Ol a 0 h)) h=A0:=⟨_,rfl⟩;obtain⟨P,gY⟩:∃P,vl (pl s.m (Ol a h m)) m=P:=⟨_,rfl⟩;obtain⟨B0,gC⟩:∃B0,vl (pl s.m (Ol b 0 h)) h=B0:=⟨_,rfl⟩;obtain⟨Q,gD⟩:∃Q,vl (pl s.m (Ol b h m)) m=Q:=⟨_,rfl⟩;have R:vl (pl s.m (Ol a 0 h)) (Ol a 0 h).k=A0:=gX;have T:vl (pl s.m (Ol a h m)) (Ol a h m).k=P:=gY;have gZ:vl (pl s.m (Ol b 0 h)) (Ol b 0 h).k=B0:=gC;have jg:vl (pl s.m (Ol b h m)) (Ol b h m).k=Q:=gD;rw[R,T,gC,gD]at v5;rw[R,gZ]at C;rw[T,jg]at gB;rw[gX,gY,gC,gD]at gA ⊢;refine .cat (zm7 (to:=Ol w (2*n+2*(m+1)) (2*(m+1))) (a:=Ol w (2*n+2*(m+1)) (2*(m+1))) (b:=Ol w 0 (2*h)) gV B (j _ _ J) (j _ _ J) (j _ _ J) rfl (J4 _) (.inr ⟨rfl,rfl⟩) (.inl (.inr (.inr (by show w.a+0+2*h≤w.a+(2*n+2*(m+1));omega)))) (by show vl _ (2*h)≤vl _ (2*(m+1));rw[C,v5];exact jR _ _ _ _)) λs6 ⟨g6,o6,v6⟩=>?_
 have jz:s6.r g=0:=by rw[g6 g J J J J,gV]
 have v6:vl (pl s6.m (Ol w (2*n+2*(m+1)) (2*(m+1)))) (2*(m+1))+vl (pl M.m (Ol w 0 (2*h))) (2*h)=vl (pl M.m (Ol w (2*n+2*(m+1)) (2*(m+1)))) (2*(m+1)):=v6;rw[C,v5]at v6;have jA:vl (pl s6.m (Ol w (2*h) (2*m))) (2*m)=_:=(o6.vl (.inr (.inr Gt)) (J4 _)).trans gB;have jB:P*Q≤vl (pl s6.m (Ol w (2*n+2*(m+1)) (2*(m+1)))) (2*(m+1)):=by
  have:(A0+P)*(B0+Q)=A0*B0+P*Q+(A0*Q+P*B0):=by grind
  omega
 refine .cat (zm7 (to:=Ol w (2*n+2*(m+1)) (2*(m+1))) (a:=Ol w (2*n+2*(m+1)) (2*(m+1))) (b:=Ol w (2*h) (2*m)) jz B (j _ _ J) (j _ _ J) (j _ _ J) rfl (J4 _) (.inr ⟨rfl,rfl⟩) (.inl (.inr (.inr Gt))) (by show vl _ (2*m)≤vl _ (2*(m+1));rw[jA];exact jB)) λI ⟨g7,o7,v7⟩=>?_
 have jC:I.r g=0:=by rw[g7 g J J J J,jz]
 have v7:vl (pl I.m (Ol w (2*n+2*(m+1)) (2*(m+1)))) (2*(m+1))+vl (pl s6.m (Ol w (2*h) (2*m))) (2*m)=vl (pl s6.m (Ol w (2*n+2*(m+1)) (2*(m+1)))) (2*(m+1)):=v7;rw[jA]at v7;have F:∀x k,x+k≤2*n→vl (pl I.m (Ol w x k)) k=vl (pl M.m (Ol w x k)) k:=λx k hx =>
  (o7.vl (q:=Ol w x k) (n:=k) (.inr (.inr Db)) (J4 _)).trans (o6.vl (q:=Ol w x k) (n:=k) (.inr (.inr Db)) (J4 _))
 have c1:=gg I.m 0 (2*h) (2*m);rw[Kw,F 0 (2*h) J,F (2*h) (2*m) J,C,gB]at c1;have c2:=gg I.m 0 h (2*n-h);rw[Kw,(J:h+(2*n-h)=2*h+2*m),c1]at c2;have jT:18446744073709551616^(2*h)=18446744073709551616^h*18446744073709551616^h:=by rw[←Nk];congr 1;omega
 rw[jT]at c2;obtain⟨M2,gF⟩:∃M2,vl (pl I.m (Ol w (2*n+2*(m+1)) (2*(m+1)))) (2*(m+1))=M2:=⟨_,rfl⟩;obtain⟨M1,jD⟩:∃M1,vl (pl s6.m (Ol w (2*n+2*(m+1)) (2*(m+1)))) (2*(m+1))=M1:=⟨_,rfl⟩;obtain⟨X0,jE⟩:∃X0,vl (pl I.m (Ol w 0 h)) h=X0:=⟨_,rfl⟩;obtain⟨Xr,gG⟩:∃Xr,vl (pl I.m (Ol w h (2*n-h))) (2*n-h)=Xr:=⟨_,rfl⟩;rw[gF,jD]at v7;rw[jD]at v6;rw[jE,gG]at c2;have U:=zw2 (mid:=(A0+P)*(B0+Q)) (V:=Xr+M2) rfl rfl rfl v6 v7 c2.symm rfl;have gH:Xr+M2<18446744073709551616^(2*n-h):=by
  have h1:18446744073709551616^h*(Xr+M2)<18446744073709551616^h*18446744073709551616^(2*n-h):=by
   rw[←Nk,(J:h+(2*n-h)=2*n)];rw[←U]at gA;omega
  exact Nat.lt_of_mul_lt_mul_left h1
 refine .cat (zcw (to:=Ol w h (2*n-h)) (a:=Ol w h (2*n-h)) (b:=Ol w (2*n+2*(m+1)) (2*(m+1))) jC B (j _ _ J) (j _ _ J) (j _ _ J) rfl (.inr ⟨rfl,rfl⟩) (.inl (.inr (.inl (by show w.a+h+(2*n-h)≤w.a+(2*n+2*(m+1));omega)))) (by show vl _ (2*n-h)+vl _ (2*(m+1))<_;rw[gG,gF];exact gH)) λs8 ⟨g8,o8,v8⟩=>?_
 have jF:s8.r g=0:=by rw[g8 g J J J J,jC]
 have v8:vl (pl s8.m (Ol w h (2*n-h))) (2*n-h)=vl (pl I.m (Ol w h (2*n-h))) (2*n-h)+vl (pl I.m (Ol w (2*n+2*(m+1)) (2*(m+1)))) (2*(m+1)):=v8;rw[gG,gF]at v8;have x8:vl (pl s8.m (Ol w 0 h)) h=X0:=(o8.vl (q:=Ol w 0 h) (.inr (.inr (by show w.a+0+h≤w.a+h;omega))) (J4 _)).trans jE;have c8:=gg s8.m 0 h (2*n-h);rw[Kw,x8,v8,(J:h+(2*n-h)=2*n),U]at c8;refine (zj1 jF B hd (j 0 (2*n) J) (.inl (.inl (Ne.symm wd)))).mono λs9 ⟨g9,o9,v9⟩=>⟨g1.trans (g2.trans (g3.trans (g4.trans (g5.trans (g6.trans (g7.trans (g8.trans g9))))))),?_,?_⟩
 ·exact (z _ _ J o1).trans ((z _ _ J o2).trans ((z _ _ J o3).trans ((z _ _ J o4).trans ((z _ _ J o5).trans ((z _ _ J o6).trans ((z _ _ J o7).trans ((z _ _ J o8).trans (o9.fm N))))))))
 ·rw[v9];show vl (pl s8.m (Ol w 0 (2*n))) (2*n)%_=_;rw[c8]
end ex
end
section
set_option linter.unusedSimpArgs false
def zdf{d t:Int}{b:Fr Lo}{m:Nat}(h:b.flat.length≤m):(Rs d t b).flat.length≤m+2:=by
 rw[xf];split
 ·simp
 ·simp;omega
def zjd{D:Int}{body:Int→List Lo}{m:Nat}(h:∀x,(body x).length≤m):∀l:List Int,(Ph D body l).flat.length≤l.length*(m+2)
 |[]=>by simp[Ph,Fr.flat]
 |[_]=>by simp[Ph,Fr.flat]
 |x::y::l=>by
  have g:=zjd (D:=D) h (y::l);have j:=zdf (d:=D) (t:=y-x) (b:=Pr (body x)) (m:=m) (by rw[flat_frL];exact h x);rw[Ph,T1,J7];simp only[Kn]at g ⊢;rw[Ku (l.length+1) 1,Oe];omega
def jl{kd n R D:Int}{to a b:Pc}{keep:Bool}:(S7 kd to a b n keep R D).flat.length≤40:=by
 unfold S7;rw[T1,flat_frL,J7];have:=zjd (D:=D) (body:=Yf kd to a b keep R D) (m:=4) (λx=>Eh) (Ye n a.size b.size);simp[Ye]at this ⊢;omega
def zki{R D:Int}{to fr:Pc}:(R1 to fr R D).flat.length≤40:=by
 have:=zjd (D:=D) (body:=Zj to fr R D) (m:=2) (λx=>by unfold Zj;simp) (Yl to.size fr.size);unfold R1;simp[Yl]at this ⊢;omega
def wq{R D:Int}{to a b:Pc}:(Rl to a b R D).flat.length≤40:=by
 unfold Rl;rw[T1,J7];have j:(Vx to R D).flat.length≤3:=zdf (m:=1) (by simp[flat_frL]);have g:(Xg to a b R D).flat.length≤14:=by
  have:=zdf (d:=D+1) (t:=b.size) (b:=Pr (Rq to b R D)) (m:=9) (by simp[flat_frL,Rq]);unfold Xg;simp only[T1,flat_frL,J7,Kn,Mb];omega
 have:=zdf (d:=D) (t:=a.size) g;omega
def sn{d a b w:Pn}{n R D:Nat}:(Ts d a b w n R D).flat.length≤400:=by
 unfold Ts;simp only;split
 ·rw[T1,J7];have g:=wq (R:=R) (D:=D) (to:=(Ol w 0 (2*n)).p) (a:=a.p) (b:=b.p);have j:=zki (R:=R) (D:=D) (to:=d.p) (fr:=(Ol w 0 (2*n)).p);omega
 ·simp only[T1,J7];have p:=λ(to a b:Pc)=>wq (R:=R) (D:=D) (to:=to) (a:=a) (b:=b)
  have c:=λ(kd n:Int) (to a b:Pc)=>jl (kd:=kd) (n:=n) (R:=R) (D:=D) (to:=to) (a:=a) (b:=b) (keep:=true)
  have q:=zki (R:=R) (D:=D) (to:=d.p) (fr:=(Ol w 0 (2*n)).p);have z:=p (Ol w 0 (2*(n/2))).p (Ol a 0 (n/2)).p (Ol b 0 (n/2)).p;have A:=p (Ol w (2*(n/2)) (2*(n-n/2))).p (Ol a (n/2) (n-n/2)).p (Ol b (n/2) (n-n/2)).p;have B:=p (Ol w (2*n+2*(n-n/2+1)) (2*(n-n/2+1))).p (Ol w (2*n) (n-n/2+1)).p (Ol w (2*n+(n-n/2+1)) (n-n/2+1)).p;have C:=c 11 (n-n/2+1:Nat) (Ol w (2*n) (n-n/2+1)).p (Ol a 0 (n/2)).p (Ol a (n/2) (n-n/2)).p;have E:=c 11 (n-n/2+1:Nat) (Ol w (2*n+(n-n/2+1)) (n-n/2+1)).p (Ol b 0 (n/2)).p (Ol b (n/2) (n-n/2)).p;have F:=c 12 (2*(n-n/2+1):Nat) (Ol w (2*n+2*(n-n/2+1)) (2*(n-n/2+1))).p (Ol w (2*n+2*(n-n/2+1)) (2*(n-n/2+1))).p (Ol w 0 (2*(n/2))).p;have G:=c 12 (2*(n-n/2+1):Nat) (Ol w (2*n+2*(n-n/2+1)) (2*(n-n/2+1))).p (Ol w (2*n+2*(n-n/2+1)) (2*(n-n/2+1))).p (Ol w (2*(n/2)) (2*(n-n/2))).p;have H:=c 11 (2*n-n/2:Nat) (Ol w (n/2) (2*n-n/2)).p (Ol w (n/2) (2*n-n/2)).p (Ol w (2*n+2*(n-n/2+1)) (2*(n-n/2+1))).p;omega
section ah
variable {c : Cf} {R D : Int} {to a b : Pn}
structure EhC (c:Cf) (R D:Int):Prop where
 r:c.R≤R∧R+11≤c.R+c.w
 p:c.pa≤8∧8≤c.pb
 l:c.lo≤D∧D+1≤c.hi
 n:0<c.nb
def zwd{d:Int}{p:Pn}(h:EhC c R D)(g:Lb c p)(hd:Ty c d):OpH c (Sq p.p R d D z):=by
 unfold Sq;have j:=h.r;have A:=h.l;split
 ·exact Yd g hd (.inr (.inl J))
 ·exact oh_Mv h.n hd (Ux (by unfold Ty;omega))
def zj0{g:Int→List Lo}(j:c.lo≤D∧D≤c.hi)(z:∀x,∀o∈g x,OpH c o):∀l:List Int,(∀x∈l,0≤x∧x≤1000000)→(Ph D g l).AllH c D
 |[],_=>trivial
 |[_],_=>trivial
 |x::y::l,h=>by
  have B:=h x N;have C:=h y N;exact allH_cat (zk4 J j (allH_L (z x))) (zj0 j z (y::l) λE A=>h E (Kl _ A))
def zps{n a b:Int}(j:0≤n∧n≤1000000)(z:0≤a)(A:0≤b):∀x∈Ye n a b,0≤x∧x≤1000000:=by
 intro x g;simp[Ye]at g;omega
def zrc{n a:Int}(j:0≤n∧n≤1000000)(z:0≤a):∀x∈Yl n a,0≤x∧x≤1000000:=by
 intro x g;simp[Yl]at g;omega
def vr{n:Int}(j:z=11∨z=12)(h:EhC c R D)(A:Lb c a)(B:Lb c b)(C:K=true→Sb c to)(E:0≤n∧n≤1000000):(S7 z to.p a.p b.p n K R D).AllH c D:=by
 have F:=h.r;have H:=h.l;have g:∀G:Int,0≤G∧G≤10→Ty c (R+G):=rgr F;unfold S7;refine allH_cat (allH_L (Uw (zp h.n (g 1 J)) oh_nil)) (zj0 J (λx=>?_) _ (zps E Dh (by show 0≤(b.k:Int);omega)));unfold Yf;refine Uw (zwd h A (g 2 J)) (Uw (zwd h B (g 3 J)) (Uw (zw6 j h.n (g 4 J) (g 1 J) (Ux (g 2 J)) (Ux (g 3 J)) (Ux (g 1 J))) ?_));cases K with
 |false=>exact oh_nil
 |true=>exact Uw (zsb (C rfl) (Ux (g 4 J)) (.inr (.inl J))) oh_nil
def zkh(h:EhC c R D)(g:Lb c a)(j:Sb c to)(C:to.k≤1000000):(R1 to.p a.p R D).AllH c D:=by
 have z:=h.r;have E:=h.l;have B:∀A:Int,0≤A∧A≤10→Ty c (R+A):=rgr z;unfold R1;refine zj0 J (λx=>?_) _ (zrc (by show 0≤(to.k:Int)∧(to.k:Int)≤_;omega) Dh);unfold Zj;exact Uw (zwd h g (B 2 J)) (Uw (zsb j (Ux (B 2 J)) (.inr (.inl J))) oh_nil)
def zbt(h:EhC c R D)(G:Lb c a)(H:Lb c b)(pl:Lb c to)(z:Sb c to)(L:a.k≤1000000)(M:b.k≤1000000)(I:to.k≤1000000):(Rl to.p a.p b.p R D).AllH c D:=by
 have E:=h.r;have O:=h.l;have P:=h.p;have g:∀K:Int,0≤K∧K≤10→Ty c (R+K):=rgr E;have A:Ty c R:=rgr0 E;have B:Xt c D:=.inl J;have j:Xt c (D+1):=.inl J;have F:Xt c 8:=.inr J;unfold Rl;refine allH_cat (zvg z (Ux A) J I) (zk4 (by show (a.k:Int)≤_;omega) J ?_);unfold Xg;have C:(Pr (Rq to.p b.p R D)).AllH c (D+1+1):=by
  unfold Rq;refine allH_L (Uw (Yd H (g 5 J) (.inr j)) (Uw (zi h.n (g 4 J) (g 5 J) (Ux (g 2 J)) (Ux (g 5 J))) (Uw (oh_Twl J h.n J B j) (Uw (Yd pl (g 6 J) (.inr F)) (Uw (zw6 (.inl rfl) h.n (g 5 J) (g 1 J) (Ux (g 5 J)) (Ux (g 6 J)) (Ux A)) (Uw (aj J h.n (g 4 J) (Ux (g 4 J)) (Ux (g 1 J))) (Uw (zw6 (.inl rfl) h.n (g 5 J) (g 1 J) (Ux (g 5 J)) (Ux (g 3 J)) (Ux A)) (Uw (aj J h.n (g 3 J) (Ux (g 4 J)) (Ux (g 1 J))) (Uw (zsb z (Ux (g 5 J)) (.inr F)) oh_nil)))))))))
 exact allH_cat (allH_L (Uw (Yd G (g 2 J) (.inr B)) (Uw (zp h.n (g 3 J)) oh_nil))) (allH_cat (zk4 (by show (b.k:Int)≤_;omega) J C) (allH_L (Uw (zsb z (Ux (g 3 J)) (.inr B)) oh_nil)))
def fp{d w:Pn}{n R D:Nat}(h:EhC c R D)(z:Lb c a)(A:Lb c b)(B:Sb c d)(G:Lb c w)(H:Sb c w)(I:n≤10000)(K:a.k≤10000)(L:b.k≤10000)(hd:d.k≤1000000):(Ts d a b w n R D).AllH c D:=by
 unfold Ts;simp only;have g:∀x k,Lb c (Ol w x k):=λ_ _=>G
 have S:∀x k,Sb c (Ol w x k):=λ_ _=>H
 have E:∀x k,Lb c (Ol a x k):=λ_ _=>z
 have F:∀x k,Lb c (Ol b x k):=λ_ _=>A
 have j:(Or (11=(11:Int)) (11=(12:Int))):=.inl rfl;have C:(Or (12=(11:Int)) (12=(12:Int))):=.inr rfl;split
 ·exact allH_cat (zbt h z A (g _ _) (S _ _) J J (by show 2*n≤_;omega)) (zkh h (g _ _) B hd)
 ·exact allH_cat (zbt h (E _ _) (F _ _) (g _ _) (S _ _) (by show n/2≤_;omega) (by show n/2≤_;omega) (by show 2*(n/2)≤_;omega))
   (allH_cat (zbt h (E _ _) (F _ _) (g _ _) (S _ _) (by show n-n/2≤_;omega) (by show n-n/2≤_;omega) (by show 2*(n-n/2)≤_;omega))
   (allH_cat (vr j h (E _ _) (E _ _) (λ_=>S _ _) J) (allH_cat (vr j h (F _ _) (F _ _) (λ_=>S _ _) J)
   (allH_cat (zbt h (g _ _) (g _ _) (g _ _) (S _ _) (by show n-n/2+1≤_;omega) (by show n-n/2+1≤_;omega) (by show 2*(n-n/2+1)≤_;omega))
   (allH_cat (vr C h (g _ _) (g _ _) (λ_=>S _ _) J) (allH_cat (vr C h (g _ _) (g _ _) (λ_=>S _ _) J)
   (allH_cat (vr j h (g _ _) (g _ _) (λ_=>S _ _) J) (zkh h (g _ _) B hd))))))))
end ah
section gd
variable {bs : List Bf} {S ls : List Int} {R D : Int} {to a b : Pn}
def zni{d:Int}{l:List Lo}{p:Pn}(g:Bp bs p)(hd:0≤d∧d<64)(j:0≤D∧D<64)(A:D∈S)(B:0≤R∧R<64)(mR:R∈S)(k:Th 64 bs (d::S) l):Th 64 bs S (Sq p.p R d D z::l):=by
 unfold Sq;split
 ·exact zjj g hd j A k
 ·exact okL_Mv hd B mR k
def zmz{d:Int}{p:Pc}:O7 (Sq p R d D z)=[d]:=by
 unfold Sq;split<;>simp[O7,Qw,Vy]
def zuh{g:Int→List Lo}(A:Yp D ls)(C:0≤D∧D<8)(E:Xe D S)(j:∀x,Th 64 bs (D::S) (g x))(z:∀x,∀o∈g x,∀y∈O7 o,8≤y):∀l:List Int,(∀x∈l,0≤x∧x≤1000000)→Gd bs S ls (Ph D g l) S
 |[],_=>.nil
 |[_],_=>.nil
 |x::y::l,h=>by
  have G:=h x N;have H:=h y N;exact Gd.cat (Gd.lpD A C E J (Gd.L (A.snoc.lt J) (j x) (z x)) λF B=>Mj _ (Kl _ B)) (zuh A C E j z (y::l) λF B=>h F (Kl _ B))
def wc{n:Int}(j:z=11∨z=12)(A:Yp D ls)(E:0≤D∧D<8)(F:Xe D S)(M:16≤R∧R≤50)(B:R∈S)(G:Bp bs a)(H:Bp bs b)(C:K=true→Bp bs to∧Bw bs to)(I:0≤n∧n≤1000000):Gd bs S ls (S7 z to.p a.p b.p n K R D) ((R+1)::S):=by
 unfold S7;have L:Th 64 bs S [cK (R+1) 0]:=i0 J okL_nil;refine Gd.cat (Gd.Lm (T:=(R+1)::S) A J L (by simp[O7,cK];omega) (by simp[O7,cK])) (zuh A E (F.high J) (λx=>?_) (λx=>?_) _ (zps I Dh (by show 0≤(b.k:Int);omega)))
 ·unfold Yf;refine zni G J J N J Aw (zni H J J N J Aw (zpb j J J J J J J N N N ?_));cases K with
  |false=>exact okL_nil
  |true=>exact zfy (C rfl).1 (C rfl).2 J J N N okL_nil
 ·intro o g;unfold Yf at g;have:O7 (Py z (R+4) (R+1) (R+2) (R+3) (R+1))=[R+4,R+1]:=by rcases j with rfl|rfl<;>simp[O7,Py]
  cases K with
  |false =>
   simp at g;rcases g with rfl|rfl|rfl
   ·rw[zmz];simp;omega
   ·rw[zmz];simp;omega
   ·rw[this];simp;omega
  |true =>
   simp at g;rcases g with rfl|rfl|rfl|rfl
   ·rw[zmz];simp;omega
   ·rw[zmz];simp;omega
   ·rw[this];simp;omega
   ·simp[O7,P2]
def zvu(z:Yp D ls)(A:0≤D∧D<8)(B:Xe D S)(G:16≤R∧R≤50)(C:R∈S)(E:Bp bs a)(g:Bp bs to)(F:Bw bs to):Gd bs S ls (R1 to.p a.p R D) S:=by
 have H:(to.k:Int)≤65536:=by have:=g.s;have:=g.z;omega
 unfold R1;refine zuh z A B (λx=>?_) (λx=>?_) _ (zrc (by show 0≤(to.k:Int)∧(to.k:Int)≤_;omega) Dh)
 ·unfold Zj;exact zni E J J N J As (zfy g F J J N N okL_nil)
 ·intro o j;unfold Zj at j;simp at j;rcases j with rfl|rfl
  ·rw[zmz];simp;omega
  ·simp[O7,P2]
def zl9(A:Yp D ls)(P:0≤D∧D+1<8)(B:Xe D S)(Q:16≤R∧R≤50)(C:R∈S)(E:Bp bs a)(F:Bp bs b)(z:Bp bs to)(G:Bw bs to):Gd bs S ls (Rl to.p a.p b.p R D) S:=by
 have I:(a.k:Int)≤65536:=by have:=E.s;have:=E.z;omega
 have K:(b.k:Int)≤65536:=by have:=F.s;have:=F.z;omega
 unfold Rl;have H:Xe (D+1) (D::S):=B.cons;have g:=A.snoc;have L:Th 64 bs (D::S) [Qw (R+2) a.p D 0,cK (R+3) 0]:=zjj E J J N (i0 J okL_nil);have M:Th 64 bs ((D+1)::(R+3)::(R+2)::D::S) (Rq to.p b.p R D):=by
  unfold Rq;refine zjj F J J N (mb J J J J J N N (zok J J J J N N (zjj z J J N (zpb (.inl rfl) J J J J J J N N As (zok J J J J N N (zpb (.inl rfl) J J J J J J N N As (zok J J J J N N (zfy z G J J N N okL_nil))))))))
 have O:Th 64 bs ((R+3)::(R+2)::D::S) [P2 to.p D b.p.size (R+3)]:=zfy z G J J N N okL_nil;refine Gd.cat (gr A J B J C z G) (Gd.lpD (S':=(R+3)::(R+2)::D::S) A J B (by show (a.k:Int)≤_;omega) ?_ λx j=>by simp[j]);unfold Xg;refine Gd.cat (Gd.Lm (T:=(R+3)::(R+2)::D::S) g J L (by simp[O7,Qw,cK];omega) (λx j=>by simp[O7,Qw,cK]at j ⊢;rcases j with h|h|h|h<;>simp[h])) (Gd.cat (Gd.lpD g J ((H.high J).high J) (by show (b.k:Int)≤_;omega) (Gd.L (g.snoc.lt J) M ?_) ?_) (Gd.Lm g J O (by simp[O7,P2]) (λx j=>by simpa [O7,P2] using j)))
 ·simp[O7,Rq,Qw,Rr,Pd,Py,P2];omega
 ·intro x j;exact Mj _ (Kl _ j)
def yo{d w:Pn}{n R D:Nat}(F:Yp (D:Int) ls)(Y:D+1<8)(C:Xe (D:Int) S)(Z:16≤R∧R≤50)(E:(R:Int)∈S)(H:Bp bs a)(I:Bp bs b)(M:Bp bs d)(O:Bw bs d)(j:Bp bs w)(Q:Bw bs w)(T:a.k=n)(U:b.k=n)(V:2*n+4*(n-n/2+1)≤w.k):Gd bs S ls (Ts d a b w n R D) S:=by
 have X:(w.k:Int)≤65536:=by have:=j.s;have:=j.z;omega
 have g:16≤(R:Int)∧(R:Int)≤50:=J
 have G:0≤(D:Int)∧(D:Int)+1<8:=J
 have A:0≤(D:Int)∧(D:Int)<8:=J
 have B:∀(q:Pn) x k,Bp bs q→x+k≤q.k→Bp bs (Ol q x k):=λq x k K h=>⟨K.b,by have:=K.s;show ((q.a+x+k:Nat):Int)≤(Oy bs q.b).size;omega,K.z⟩
 have W:∀x k,Bw bs (Ol w x k):=λ_ _=>Q
 have s1:Xe (D:Int) (((R:Int)+1)::S):=C.high J;have m1:(R:Int)∈((R:Int)+1)::S:=Ak
 have L:(Or (11=(11:Int)) (11=(12:Int))):=.inl rfl;have P:(Or (12=(11:Int)) (12=(12:Int))):=.inr rfl;have z:∀{f:Fr Lo},Gd bs S ls f (((R:Int)+1)::S)→Gd bs S ls f S:=λh=>Gd.mono h (λ_ h=>h) (λ_ h=>Kl _ h)
 unfold Ts;simp only;split
 ·exact Gd.cat (zl9 F G C g E H I (B _ _ _ j J) (W _ _)) (zvu F A C g E (B _ _ _ j J) M O)
 ·exact Gd.cat (zl9 F G C g E (B _ _ _ H J) (B _ _ _ I J) (B _ _ _ j J) (W _ _))
   (Gd.cat (zl9 F G C g E (B _ _ _ H J) (B _ _ _ I J) (B _ _ _ j J) (W _ _))
   (Gd.cat (z (wc L F A C g E (B _ _ _ H J) (B _ _ _ H J) (λ_=>⟨B _ _ _ j J,W _ _⟩) J))
   (Gd.cat (z (wc L F A C g E (B _ _ _ I J) (B _ _ _ I J) (λ_=>⟨B _ _ _ j J,W _ _⟩) J))
   (Gd.cat (zl9 F G C g E (B _ _ _ j J) (B _ _ _ j J) (B _ _ _ j J) (W _ _))
   (Gd.cat (z (wc P F A C g E (B _ _ _ j J) (B _ _ _ j J) (λ_=>⟨B _ _ _ j J,W _ _⟩) J))
   (Gd.cat (z (wc P F A C g E (B _ _ _ j J) (B _ _ _ j J) (λ_=>⟨B _ _ _ j J,W _ _⟩) J))
   (Gd.cat (z (wc L F A C g E (B _ _ _ j J) (B _ _ _ j J) (λ_=>⟨B _ _ _ j J,W _ _⟩) J))
   (zvu F A C g E (B _ _ _ j J) M O))))))))
end gd
end
section
noncomputable section
set_option linter.unusedSimpArgs false
def bq(i k:Nat):Pn:=⟨i,0,k⟩
def X8(R:Nat):Fr Lo:=Pr [cK R 0]
def Ue(n w R:Nat):Fr Lo:=(X8 R).cat (S7 11 (bq 2 w).p (bq 0 n).p (bq 1 n).p (w:Nat) true R ((0:Nat):Int))
def Wr(n R:Nat):Fr Lo:=(X8 R).cat (S7 12 (bq 3 n).p (bq 2 (n+1)).p (bq 1 n).p (n:Nat) true R ((0:Nat):Int))
def V0(n R:Nat)(w:Pn):Fr Lo:=(X8 R).cat ((Rl (Ol w 0 (n+n)).p (bq 0 n).p (bq 1 n).p R ((0:Nat):Int)).cat (R1 (bq 4 (2*n)).p (Ol w 0 (n+n)).p R ((0:Nat):Int)))
def W3(n R:Nat)(w:Pn):Fr Lo:=(X8 R).cat (Ts (bq 5 (2*n)) (bq 1 n) (bq 0 n) w n R 0)
def Wt(n R:Nat):Fr Lo:=(X8 R).cat ((S7 12 (bq 6 1).p (bq 0 n).p (bq 1 n).p (n:Nat) false R ((0:Nat):Int)).cat (Pr [P2 (bq 6 1).p (-1) 0 ((R:Int)+1)]))
def Px(n R:Nat)(w:Pn):Fr Lo:=(Ue n (n+1) R).cat ((Wr n R).cat ((V0 n R w).cat ((W3 n R w).cat (Wt n R))))
section ex
variable {sz : Nat → Nat} {s : Fs}
def dv{f:Fr Lo}{j:Fs→Prop}(h:Tx sz f (s.put g 0) j):Tx sz ((X8 g).cat f) s j:=by
 unfold X8;refine .op af ?_;rw[show ∀z,Fr.cat (Pr []) z=z from λ_=>rfl];exact h
def za4{x:UInt64}:(s.put g x).r g=x:=by rw[R7,J8 rfl]
def cf{v c q:Nat}(z:g+j=M*q+A)(B:v+j=A+M*c)(C:v<M)(D:g<M):v=g:=by
 rcases Nat.lt_trichotomy c q with h|h|h
 ·obtain⟨d,rfl⟩:∃d,q=c+1+d:=⟨q-c-1,J⟩;have:M*(c+1+d)=M*c+M+M*d:=by rw[Nf,Nf,Nl]
  omega
 ·subst h;omega
 ·obtain⟨d,rfl⟩:∃d,c=q+1+d:=⟨c-q-1,J⟩;have:M*(q+1+d)=M*q+M+M*d:=by rw[Nf,Nf,Nl]
  omega
def add_ex{n w:Nat}(z:(bq 0 n).in_ sz)(A:(bq 1 n).in_ sz)(B:(bq 2 w).in_ sz)(C:0<g)(hw:n<w) :
  Tx sz (Ue n w g) s λj=>Qb (bq 2 w) s.m j.m∧vl (pl j.m (bq 2 w)) w=vl (pl s.m (bq 0 n)) n+vl (pl s.m (bq 1 n)) n:=by
 refine dv ((zcw (D:=0) (n:=w) (to:=bq 2 w) (a:=bq 0 n) (b:=bq 1 n) za4 C z A B rfl (.inl (.inl (by show 2≠0;decide))) (.inl (.inl (by show 2≠1;decide))) ?_).mono λj ⟨_,h,k⟩=>⟨h,k⟩);show vl (pl s.m (bq 0 n)) n+vl (pl s.m (bq 1 n)) n<_;have E:=Yu (pl s.m (bq 0 n)) n;have F:=Yu (pl s.m (bq 1 n)) n;have:18446744073709551616^(n+1)≤18446744073709551616^w:=Ls Ac hw;rw[Mv]at this;omega
def fiv_ex{n R:Nat}{w:Pn}(C:(bq 0 n).in_ sz)(z:(bq 1 n).in_ sz)(M:(bq 2 (n+1)).in_ sz)(h3:(bq 3 n).in_ sz)(h4:(bq 4 (2*n)).in_ sz)(h5:(bq 5 (2*n)).in_ sz)(h6:(bq 6 1).in_ sz)(hw:w.in_ sz)(gB:7≤w.b)(hn:1≤n)(gg:2*n+4*(n-n/2+1)≤w.k)(hR:8<R) :
  Tx sz (Px n R w) s λY=>vl (pl Y.m (bq 3 n)) n=vl (pl s.m (bq 0 n)) n∧vl (pl Y.m (bq 4 (2*n))) (2*n)=vl (pl s.m (bq 0 n)) n*vl (pl s.m (bq 1 n)) n∧vl (pl Y.m (bq 5 (2*n))) (2*n)=vl (pl s.m (bq 0 n)) n*vl (pl s.m (bq 1 n)) n ∧
   Y.m 6 0=if vl (pl s.m (bq 0 n)) n<vl (pl s.m (bq 1 n)) n then 1 else 0:=by
 obtain⟨A,Z⟩:∃A,vl (pl s.m (bq 0 n)) n=A:=⟨_,rfl⟩;obtain⟨E,hB⟩:∃E,vl (pl s.m (bq 1 n)) n=E:=⟨_,rfl⟩;have lA:A<18446744073709551616^n:=Z ▸ Yu _ _;have lB:E<18446744073709551616^n:=hB ▸ Yu _ _;have Q:A*E<18446744073709551616^(2*n):=by
  rw[(J:2*n=n+n),Nk];exact Nat.mul_lt_mul'' lA lB
 rw[Z,hB];have F:∀{i H k l:Nat},i≠H→Dj (bq i k) (bq H l):=λh=>.inl h
 have nw:∀{H l:Nat},H<7→Dj w (bq H l):=λ{H l} h=>.inl (by show w.b≠H;omega)
 unfold Px;refine .cat (add_ex C z M J (K7 n)) λs1 ⟨o1,v1⟩=>?_
 rw[Z,hB]at v1;have a1:vl (pl s1.m (bq 0 n)) n=A:=(o1.vl (F Ac) (J4 _)).trans Z;have b1:vl (pl s1.m (bq 1 n)) n=E:=(o1.vl (F Ac) (J4 _)).trans hB;refine .cat (dv (zeo (D:=0) (.inr rfl) (keep:=true) (n:=n) (to:=bq 3 n) (a:=bq 2 (n+1)) (b:=bq 1 n) za4 J M z Fx λ_=>⟨h3,J4 _,.inl (F Ac),.inl (F Ac)⟩)) λO ⟨_,_,o2,c,v,lv,_,w2,r2⟩=>?_
 have o2:=o2 rfl;have v2:vl (pl O.m (bq 3 n)) n=A:=by
  rw[w2 rfl];have I:¬(12:Int)=11:=Ac
  rw[Uc,J2 I,qq,qq]at r2;have e1:vl (pl (s1.put R 0).m (bq 2 (n+1))) (bq 2 (n+1)).k=A+E:=v1;have e2:vl (pl (s1.put R 0).m (bq 1 n)) (bq 1 n).k=E:=b1;rw[e1,e2,Kt lB]at r2;exact cf (Nat.div_add_mod _ _).symm r2 lv lA
 have a2:vl (pl O.m (bq 0 n)) n=A:=(o2.vl (F Ac) (J4 _)).trans a1;have b2:vl (pl O.m (bq 1 n)) n=E:=(o2.vl (F Ac) (J4 _)).trans b1;have T:(Ol w 0 (n+n)).in_ sz:=by
  obtain⟨q1,q2⟩:=hw;exact⟨by show w.a+0+(n+n)≤sz w.b;omega,q2⟩
 have U:Tx sz (V0 n R w) O λg=>vl (pl g.m (bq 4 (2*n))) (2*n)=A*E∧Fm [w,bq 4 (2*n)] O.m g.m:=by
  refine dv (.cat (zn9 (D:=0) (to:=Ol w 0 (n+n)) (a:=bq 0 n) (b:=bq 1 n) za4 J hR C z T rfl (.inl (by show w.b≠0;omega)) (.inl (by show w.b≠1;omega))) λs3 ⟨g3,o3,v3⟩=>?_);refine (zj1 (D:=0) (to:=bq 4 (2*n)) (fr:=Ol w 0 (n+n)) (by rw[g3 R J J J J,za4]) J h4 T (.inl (.inl (by show 4≠w.b;omega)))).mono λg ⟨_,o4,v4⟩=>⟨?_,?_⟩
  ·have e3:vl (pl s3.m (Ol w 0 (n+n))) (Ol w 0 (n+n)).k=A*E:=by rw[←a2,←b2];exact v3
   have e4:vl (pl g.m (bq 4 (2*n))) (2*n)=vl (pl s3.m (Ol w 0 (n+n))) (Ol w 0 (n+n)).k%18446744073709551616^(2*n):=v4;rw[e4,e3,Kt Q]
  ·have f3:Fm [w,bq 4 (2*n)] O.m s3.m:=λu v gA=>o3 u v λ⟨q1,q2,q3⟩=>gA w N ⟨q1,by have:w.a+0≤v:=q2;omega,by have:v<w.a+0+(n+n):=q3;omega⟩
   exact f3.trans (o4.fm N)
 refine .cat U λg h=>?_
 obtain⟨v4,f4⟩:=h;have K:∀{H l:Nat},H<7→H≠4→∀p∈[w,bq 4 (2*n)],Dj p (bq H l):=λz M p V=>by
  simp at V;rcases V with rfl|rfl
  ·exact nw z
  ·exact F (Ne.symm M)
 have a4:vl (pl g.m (bq 0 n)) n=A:=(f4.vl (K Ac Ac) (J4 _)).trans a2;have b4:vl (pl g.m (bq 1 n)) n=E:=(f4.vl (K Ac Ac) (J4 _)).trans b2;have c4:vl (pl g.m (bq 3 n)) n=A:=(f4.vl (K Ac Ac) (J4 _)).trans v2;refine .cat (dv (ye (D:=0) (d:=bq 5 (2*n)) (a:=bq 1 n) (b:=bq 0 n) za4 J hR z C h5 hw rfl rfl hn gg (by show w.b≠1;omega) (by show w.b≠0;omega) (by show w.b≠5;omega))) λj ⟨_,P,v5⟩=>?_
 have B:∀{H l:Nat},H<7→H≠5→∀p∈[w,bq 5 (2*n)],Dj p (bq H l):=λz M p V=>by
  simp at V;rcases V with rfl|rfl
  ·exact nw z
  ·exact F (Ne.symm M)
 have P:Fm [w,bq 5 (2*n)] g.m j.m:=P;have v5:vl (pl j.m (bq 5 (2*n))) (2*n)=A*E:=by
  have e:vl (pl j.m (bq 5 (2*n))) (2*n)=vl (pl g.m (bq 1 n)) n*vl (pl g.m (bq 0 n)) n%18446744073709551616^(2*n):=v5;rw[e,a4,b4,Mo E A,Kt Q]
 have a5:vl (pl j.m (bq 0 n)) n=A:=(P.vl (B Ac Ac) (J4 _)).trans a4;have b5:vl (pl j.m (bq 1 n)) n=E:=(P.vl (B Ac Ac) (J4 _)).trans b4;have c5:vl (pl j.m (bq 3 n)) n=A:=(P.vl (B Ac Ac) (J4 _)).trans c4;have d5:vl (pl j.m (bq 4 (2*n))) (2*n)=A*E:=(P.vl (B Ac Ac) (J4 _)).trans v4;refine dv (.cat (zeo (D:=0) (.inr rfl) (keep:=false) (n:=n) (to:=bq 6 1) (a:=bq 0 n) (b:=bq 1 n) za4 J C z Fx λh=>Af) λG ⟨_,m6,_,c,v,lv,r6,_,q6⟩=>?_);have m6:G.m=j.m:=m6 rfl;have X:(c=true)↔A<E:=by
  have I:¬(12:Int)=11:=Ac
  rw[Uc,J2 I,qq,qq]at q6;have e1:vl (pl (j.put R 0).m (bq 0 n)) (bq 0 n).k=A:=a5;have e2:vl (pl (j.put R 0).m (bq 1 n)) (bq 1 n).k=E:=b5;rw[e1,e2,Kt lA,Kt lB]at q6;cases c with
  |false=>simp at q6 ⊢;omega
  |true=>simp at q6 ⊢;omega
 refine .op (st_no (p:=bq 6 1) (off:=0) (v:=R+1) (by have:=h6.1;simp only[bq]at *;omega) h6.2) (.nil ?_);have L:∀{i l k:Nat},i≠6→vl (pl (G.sto (bq 6 1).b ((bq 6 1).a+0) (G.r (R+1))).m (bq i l)) k=vl (pl j.m (bq i l)) k:=λ{i l k} hi=>by
  rw[←m6];refine Zh λt _=>?_
  show (G.sto 6 (0+0) (G.r (R+1))).m i (0+t)=G.m i (0+t);rw[zw9,J2 (λh=>hi h.1)]
 refine⟨(L Ac).trans c5,(L Ac).trans d5,(L Ac).trans v5,?_⟩;show (G.sto 6 (0+0) (G.r (R+1))).m 6 0=_;rw[zw9,J8 ⟨rfl,rfl⟩,r6];cases c with
 |false=>rw[J2 (λh=>by simpa using X.2 h)];rfl
 |true=>rw[J8 (X.1 rfl)];rfl
end ex
end
end
section
set_option linter.unusedSimpArgs false
def znx{D:Int}{body:Int→List Lo}{m T:Nat}(h:∀x,(body x).length≤m)(j:T≤1000000):∀l:List Int,(∀x∈l,0≤x∧x≤T)→(Ph D body l).stp≤l.length*(T*(1+m))
 |[],_=>by simp[Ph,Fr.stp]
 |[_],_=>by simp[Ph,Fr.stp]
 |x::y::l,g=>by
  have z:=znx (D:=D) h j (y::l) λB A=>g B (Kl _ A)
  have C:=g x N;have E:=g y N;have F:=zpe (d:=D) (times:=y-x) (b:=Pr (body x)) (T:=T) (M:=m) J j (by rw[xp];exact h x);rw[Ph,stp_cat];simp only[Kn]at z ⊢;rw[Ku (l.length+1) 1,Oe];omega
def sy{kd n R D:Int}{to a b:Pc}{keep:Bool}(j:0≤n∧n≤40)(z:0≤a.size)(A:0≤b.size):(S7 kd to a b n keep R D).stp≤900:=by
 unfold S7;rw[stp_cat,xp];have:=znx (D:=D) (body:=Yf kd to a b keep R D) (m:=4) (T:=40) (λx=>Eh) Ac (Ye n a.size b.size) (λx g=>by simp[Ye]at g;omega);simp[Ye]at this ⊢;omega
def zo6{R D:Int}{to fr:Pc}(j:0≤to.size∧to.size≤40)(z:0≤fr.size):(R1 to fr R D).stp≤900:=by
 have:=znx (D:=D) (body:=Zj to fr R D) (m:=2) (T:=40) (λx=>by unfold Zj;simp) Ac (Yl to.size fr.size) (λx g=>by simp[Yl]at g;omega);unfold R1;simp[Yl]at this ⊢;omega
def zgo{R D:Int}{to a b:Pc}(j:to.size≤40)(z:a.size≤40)(A:b.size≤40):(Rl to a b R D).stp≤20000:=by
 unfold Rl;rw[stp_cat];have B:(Vx to R D).stp≤40*(1+1):=zpe J Ac (by simp[xp]);have g:(Xg to a b R D).stp≤410:=by
  have:=zpe (d:=D+1) (times:=b.size) (b:=Pr (Rq to b R D)) (T:=40) (M:=9) J Ac (by simp[xp,Rq]);unfold Xg;simp only[stp_cat,xp,Kn,Mb];omega
 have:=zpe (d:=D) (times:=a.size) (T:=40) J Ac g;omega
def qt{d a b w:Pn}{n R D:Nat}(A:n≤9)(j:a.k=n)(z:b.k=n)(hd:d.k≤40):(Ts d a b w n R D).stp≤100000:=by
 have g:∀(q:Pn) x k,((Ol q x k).p.size=(k:Int)):=λ_ _ _=>rfl
 have P:a.p.size=(n:Int):=by show ((a.k:Nat):Int)=_;rw[j]
 have Q:b.p.size=(n:Int):=by show ((b.k:Nat):Int)=_;rw[z]
 have B:d.p.size=(d.k:Int):=rfl;unfold Ts;simp only;split
 ·rw[stp_cat];have C:=zgo (R:=R) (D:=D) (to:=(Ol w 0 (2*n)).p) (a:=a.p) (b:=b.p) Ai J J;have E:=zo6 (R:=R) (D:=D) (to:=d.p) (fr:=(Ol w 0 (2*n)).p) J Ai;omega
 ·simp only[stp_cat];have F:=zgo (R:=R) (D:=D) (to:=(Ol w 0 (2*(n/2))).p) (a:=(Ol a 0 (n/2)).p) (b:=(Ol b 0 (n/2)).p) Ai Ai Ai;have G:=zgo (R:=R) (D:=D) (to:=(Ol w (2*(n/2)) (2*(n-n/2))).p) (a:=(Ol a (n/2) (n-n/2)).p) (b:=(Ol b (n/2) (n-n/2)).p) Ai Ai Ai;have H:=zgo (R:=R) (D:=D) (to:=(Ol w (2*n+2*(n-n/2+1)) (2*(n-n/2+1))).p) (a:=(Ol w (2*n) (n-n/2+1)).p) (b:=(Ol w (2*n+(n-n/2+1)) (n-n/2+1)).p) Ai Ai Ai;have I:=sy (R:=R) (D:=D) (kd:=11) (keep:=true) (n:=(n-n/2+1:Nat)) (to:=(Ol w (2*n) (n-n/2+1)).p) (a:=(Ol a 0 (n/2)).p) (b:=(Ol a (n/2) (n-n/2)).p) J Ai Ai;have K:=sy (R:=R) (D:=D) (kd:=11) (keep:=true) (n:=(n-n/2+1:Nat)) (to:=(Ol w (2*n+(n-n/2+1)) (n-n/2+1)).p) (a:=(Ol b 0 (n/2)).p) (b:=(Ol b (n/2) (n-n/2)).p) J Ai Ai;have L:=sy (R:=R) (D:=D) (kd:=12) (keep:=true) (n:=(2*(n-n/2+1):Nat)) (to:=(Ol w (2*n+2*(n-n/2+1)) (2*(n-n/2+1))).p) (a:=(Ol w (2*n+2*(n-n/2+1)) (2*(n-n/2+1))).p) (b:=(Ol w 0 (2*(n/2))).p) J Ai Ai;have M:=sy (R:=R) (D:=D) (kd:=12) (keep:=true) (n:=(2*(n-n/2+1):Nat)) (to:=(Ol w (2*n+2*(n-n/2+1)) (2*(n-n/2+1))).p) (a:=(Ol w (2*n+2*(n-n/2+1)) (2*(n-n/2+1))).p) (b:=(Ol w (2*(n/2)) (2*(n-n/2))).p) J Ai Ai;have O:=sy (R:=R) (D:=D) (kd:=11) (keep:=true) (n:=(2*n-n/2:Nat)) (to:=(Ol w (n/2) (2*n-n/2)).p) (a:=(Ol w (n/2) (2*n-n/2)).p) (b:=(Ol w (2*n+2*(n-n/2+1)) (2*(n-n/2+1))).p) J Ai Ai;have q:=zo6 (R:=R) (D:=D) (to:=d.p) (fr:=(Ol w 0 (2*n)).p) J Ai;omega
def ss{n R:Nat}{w:Pn}(j:n≤9):(Px n R w).stp≤16777216:=by
 have g:∀i k,(bq i k).p.size=(k:Int):=λ_ _=>rfl
 have z:∀x k,(Ol w x k).p.size=(k:Int):=λ_ _=>rfl
 have A:(X8 R).stp=1:=by simp[X8,xp]
 have B:=sy (kd:=11) (n:=(n+1:Nat)) (R:=R) (D:=(0:Nat)) (to:=(bq 2 (n+1)).p) (a:=(bq 0 n).p) (b:=(bq 1 n).p) (keep:=true) J Ai Ai;have C:=sy (kd:=12) (n:=(n:Nat)) (R:=R) (D:=(0:Nat)) (to:=(bq 3 n).p) (a:=(bq 2 (n+1)).p) (b:=(bq 1 n).p) (keep:=true) J Ai Ai;have E:=zgo (R:=R) (D:=(0:Nat)) (to:=(Ol w 0 (n+n)).p) (a:=(bq 0 n).p) (b:=(bq 1 n).p) (by rw[z];omega) Ai Ai;have F:=zo6 (R:=R) (D:=(0:Nat)) (to:=(bq 4 (2*n)).p) (fr:=(Ol w 0 (n+n)).p) Ai (by rw[z];omega);have G:=qt (d:=bq 5 (2*n)) (a:=bq 1 n) (b:=bq 0 n) (w:=w) (n:=n) (R:=R) (D:=0) j rfl rfl (by show 2*n≤40;omega);have H:=sy (kd:=12) (n:=(n:Nat)) (R:=R) (D:=(0:Nat)) (to:=(bq 6 1).p) (a:=(bq 0 n).p) (b:=(bq 1 n).p) (keep:=false) J Ai Ai;unfold Px Ue Wr V0 W3 Wt;simp only[stp_cat,xp,A,Kn,Mb];omega
def zno{n R:Nat}{w:Pn}:(Px n R w).flat.length≤60000:=by
 have g:(X8 R).flat.length=1:=by simp[X8,flat_frL]
 have j:=jl (kd:=11) (n:=(n+1:Nat)) (R:=R) (D:=(0:Nat)) (to:=(bq 2 (n+1)).p) (a:=(bq 0 n).p) (b:=(bq 1 n).p) (keep:=true);have z:=jl (kd:=12) (n:=(n:Nat)) (R:=R) (D:=(0:Nat)) (to:=(bq 3 n).p) (a:=(bq 2 (n+1)).p) (b:=(bq 1 n).p) (keep:=true);have A:=wq (R:=R) (D:=(0:Nat)) (to:=(Ol w 0 (n+n)).p) (a:=(bq 0 n).p) (b:=(bq 1 n).p);have B:=zki (R:=R) (D:=(0:Nat)) (to:=(bq 4 (2*n)).p) (fr:=(Ol w 0 (n+n)).p);have C:=sn (d:=bq 5 (2*n)) (a:=bq 1 n) (b:=bq 0 n) (w:=w) (n:=n) (R:=R) (D:=0);have E:=jl (kd:=12) (n:=(n:Nat)) (R:=R) (D:=(0:Nat)) (to:=(bq 6 1).p) (a:=(bq 0 n).p) (b:=(bq 1 n).p) (keep:=false);unfold Px Ue Wr V0 W3 Wt;simp only[T1,flat_frL,J7,g,Kn,Mb];omega
section ah
variable {c : Cf} {n R : Nat} {w : Pn}
def zl2{f:Fr Lo}(h:EhC c (R:Int) ((0:Nat):Int))(k:f.AllH c ((0:Nat):Int)):((X8 R).cat f).AllH c ((0:Nat):Int) :=
 allH_cat (allH_L (Uw (zp h.n (rgr0 h.r)) oh_nil)) k
def qw(h:EhC c (R:Int) ((0:Nat):Int))(j:∀i,i<7→i<c.nb∧c.L i)(z:∀i,2≤i→i<7→i<c.nb∧c.S i)(A:g≤40):(Ue n g R).AllH c ((0:Nat):Int) :=
 zl2 h (vr (.inl rfl) h (j 0 Ac) (j 1 Ac) (λ_=>z 2 Ac Ac) J)
def nh(h:EhC c (R:Int) ((0:Nat):Int))(g:∀i,i<7→i<c.nb∧c.L i)(j:∀i,2≤i→i<7→i<c.nb∧c.S i)(z:Lb c w)(A:Sb c w)(C:n≤9):(Px n R w).AllH c ((0:Nat):Int):=by
 have B:=rgr h.r 1 J;unfold Px;refine allH_cat (qw h g j J) (allH_cat (zl2 h (vr (.inr rfl) h (g 2 Ac) (g 1 Ac) (λ_=>j 3 Ac Ac) J)) (allH_cat (zl2 h (allH_cat (zbt h (g 0 Ac) (g 1 Ac) z A ?_ ?_ ?_) (zkh h z (j 4 Ac Ac) ?_)))
  (allH_cat (zl2 h (fp h (g 1 Ac) (g 0 Ac) (j 5 Ac Ac) z A J ?_ ?_ ?_)) (zl2 h (allH_cat (vr (.inr rfl) h (g 0 Ac) (g 1 Ac) (λh=>Af) J) (allH_L (Uw (zsb (p:=bq 6 1) (j 6 Ac Ac) (Ux B) (.inl rfl)) oh_nil)))))))
 all_goals simp only[bq,Ol]
 all_goals omega
end ah
section gd
variable {bs : List Bf} {n R : Nat} {w : Pn}
def cn{f:Fr Lo}(j:16≤R∧R≤50)(k:Gd bs [(R:Int)] [] f vU):Gd bs [] [] ((X8 R).cat f) [] :=
 Gd.cat (Gd.mono (S3:=[(R:Int)]) (Gd.L (λx g=>Fi) (i0 J okL_nil) (by simp[O7,cK];omega)) (λ_ h=>h) (λx g=>by simpa [O7,cK] using g)) (Gd.mono k (λ_ h=>h) (λ_ h=>Af))
def add_gd(j:16≤R∧R≤50)(z:Bp bs (bq 0 n))(A:Bp bs (bq 1 n))(B:Bp bs (bq 2 g)∧Bw bs (bq 2 g))(hw:g≤40):Gd bs [] [] (Ue n g R) [] :=
 cn j (wc (.inl rfl) ⟨N,N⟩ J (λx C=>by simp at C;omega) J N z A (λ_=>B) J)
def fiv_gd(j:16≤R∧R≤50)(C:Bp bs (bq 0 n))(z:Bp bs (bq 1 n))(H:Bp bs (bq 2 (n+1))∧Bw bs (bq 2 (n+1)))(O:Bp bs (bq 3 n)∧Bw bs (bq 3 n))(I:Bp bs (bq 4 (2*n))∧Bw bs (bq 4 (2*n)))(K:Bp bs (bq 5 (2*n))∧Bw bs (bq 5 (2*n)))(L:Bp bs (bq 6 1)∧Bw bs (bq 6 1))(hw:Bp bs w∧Bw bs w)(P:n≤9)(D:2*n+4*(n-n/2+1)≤w.k) :
  Gd bs [] [] (Px n R w) []:=by
 have A:Yp ((0:Nat):Int) []:=⟨N,N⟩;have B:Xe ((0:Nat):Int) [(R:Int)]:=λx E=>by simp at E;omega
 have g:16≤(R:Int)∧(R:Int)≤50:=J
 have F:0≤((0:Nat):Int)∧((0:Nat):Int)<8:=J
 have G:0≤((0:Nat):Int)∧((0:Nat):Int)+1<8:=J
 have m:(R:Int)∈[(R:Int)]:=N
 have M:Bp bs (Ol w 0 (n+n)):=⟨hw.1.b,by have:=hw.1.s;show ((w.a+0+(n+n):Nat):Int)≤(Oy bs w.b).size;omega,hw.1.z⟩;unfold Px;refine Gd.cat (add_gd j C z H J) (Gd.cat (cn j (wc (.inr rfl) A F B g m H.1 z (λ_=>O) J)) (Gd.cat (cn j (Gd.cat (zl9 A G B g m C z M hw.2) (zvu A F B g m M I.1 I.2)))
  (Gd.cat (cn j (yo A J B J m z C K.1 K.2 hw.1 hw.2 rfl rfl D)) (cn j (Gd.cat (wc (.inr rfl) A F B g m C z (λh=>Af) J) (Gd.L (λx E=>by cases E) (qz (p:=bq 6 1) L.1 L.2 J J (by show (0:Int)<((1:Nat):Int);omega) N okL_nil) (by simp[O7,P2])))))))
end gd
end
section
set_option linter.unusedSimpArgs false
def v7(n:Nat)(s:Bool):List Vr:=[⟨n,s,0⟩,⟨n,s,0⟩,⟨(n:Int)+1,s,0⟩,⟨n,s,0⟩,⟨2*(n:Int),s,0⟩,⟨2*(n:Int),s,0⟩,⟨1,s,0⟩]
def v3:List Vr:=[⟨1,true,0⟩,⟨1,true,0⟩,⟨2,true,0⟩]
def oX(g d a b:Int):Ko:=⟨g,d,-1,a,b,-1,0⟩
def w7(n:Nat):Int:=O9 n
def zgw{n:Nat}{s:Bool}(h:1≤n∧n≤9):To (v7 n s)=true:=by
 have b:∀k:Int,1≤k→k≤18→Zo ⟨k,s,0⟩=false:=λk B C=>by
  simp[Zo];omega
 have g:=b n J J;have j:=b ((n:Int)+1) J J;have z:=b (2*(n:Int)) J J;have A:=b 1 J J;simp[To,v7,V6,g,j,z,A]
def zs1{n:Nat}{s:Bool}:gv (v7 n s) 0=⟨n,s,0⟩∧gv (v7 n s) 1=⟨n,s,0⟩∧gv (v7 n s) 2=⟨(n:Int)+1,s,0⟩∧gv (v7 n s) 3=⟨n,s,0⟩∧gv (v7 n s) 4=⟨2*(n:Int),s,0⟩∧gv (v7 n s) 5=⟨2*(n:Int),s,0⟩∧gv (v7 n s) 6=⟨1,s,0⟩:=⟨rfl,rfl,rfl,rfl,rfl,rfl,rfl⟩
def v7_may{n:Nat}{s:Bool}(h:1≤n∧n≤9){o:Ko}(g:o∈[oX 3 2 0 1,oX 4 3 2 1,oX 5 4 0 1,oX 6 5 1 0,oX 7 6 0 1]):Ul (v7 n s) o=true:=by
 rw[fe,zgw h];obtain⟨j,z,A,B,C,D,E⟩:=zs1 (n:=n) (s:=s);have F:(v7 n s).length=7:=rfl;have t:∀i:Nat,Nat.testBit 13 i=(i==0 || i==2 || i==3):=λi=>by
  rcases i with _|_|_|_|i
  ·decide
  ·decide
  ·decide
  ·decide
  ·have:(13:Nat).testBit (i+4)=false:=Nat.testBit_lt_two_pow (Kr (Ac:(13:Nat)<2^4) (Ls Ac J));rw[(J:i+1+1+1+1=i+4),this];simp
 simp only[J9,Lp,Nd]at g;rcases g with rfl|rfl|rfl|rfl|rfl<;>cases s <;>
  simp[oX,tp,Rg,R5,Um,Vt,Ub,Yc,Wu,S4,U1,qh,Ta,Te,t,F,j,z,A,B,C,D,E,Ti]
def zv9{n:Nat}{s:Bool}(h:1≤n∧n≤9):Tn (v7 n s) (oX 3 2 0 1)=1∧Tn (v7 n s) (oX 4 3 2 1)=1∧Tn (v7 n s) (oX 5 4 0 1)=2*n∧Tn (v7 n s) (oX 6 5 1 0)=O9 n∧Tn (v7 n s) (oX 7 6 0 1)=1:=by
 obtain⟨j,g,A,B,C,D,E⟩:=zs1 (n:=n) (s:=s);have m:=λo z=>v7_may (s:=s) h (o:=o) z
 refine⟨?_,?_,?_,?_,?_⟩
 ·unfold Tn;rw[m _ N];simp[Sr,oX]
 ·unfold Tn;rw[m _ N];simp[Sr,oX]
 ·unfold Tn;rw[m _ N];simp[Sr,oX,Te,j,g];omega
 ·unfold Tn;rw[m _ N];simp[Sr,oX,Te,g]
 ·unfold Tn;rw[m _ N];simp[Sr,oX]
end
end Go.Sv
