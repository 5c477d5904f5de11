/- Texts of the evaluator, of the logic over it, of plain arithmetic. -/
import Derived.Test.YtodjkjimaheggaaGreatSvG0
import Derived.Orders
import Derived.WalkKit
import Derived.ProofKit
import Derived.OpenShut
namespace Go.Sv
def Same (ts:List Nat) (E' E:Tr AV):Prop:=∀ t∈ts,t≤lim→getP (z09 t) E'=getP (z09 t) E
theorem opd_cong {x:Operand} {E E':Tr AV} (h:Same (zeg [x]) E' E):(opd x).run E'=(opd x).run E:=by
 cases x with
 | tmp t =>
  unfold opd
  dsimp only
  split
  ·rename_i hle
   dsimp only
   rw[h t (by simp[zeg]) (Nat.le_of_ble_eq_true hle)]
  ·rfl
 | const v=>unfold opd; dsimp only; split <;> rfl
 | func f=>rfl
 | global g=>rfl
theorem Same.opds:∀ {l:List Operand} {E E':Tr AV},Same (zeg l) E' E→∀ x∈l,(opd x).run E'=(opd x).run E
 | [],_,_,_,x,hx=>by cases hx
 | y::l,E,E',h,x,hx=>by
  rcases List.mem_cons.1 hx with rfl | hx
  ·refine opd_cong (fun t ht=>h t ?_)
   cases x <;> simp_all [zeg]
  ·refine Same.opds (l:=l) (fun t ht=>h t ?_) x hx
   cases y <;> simp_all [zeg]
section cong
variable {E E' : Tr AV} {H : Heap}
theorem opds_cong:∀ {l:List Operand},(∀ x∈l,(opd x).run E'=(opd x).run E)→(opds l).run E'=(opds l).run E
 | [],_=>rfl
 | x::l,h=>by
  simp only[opds]
  rw[h x (by simp),opds_cong (fun y hy=>h y (by simp[hy]))]
theorem z0n {x:Operand} {f:Heap→AV→OR} (h:(opd x).run E'=(opd x).run E):(z14 x f).run E' H=(z14 x f).run E H:=by
 simp only[z14]; rw[h]
theorem z1a {x y:Operand} {f:Heap→AV→AV→OR} (h:(opd x).run E'=(opd x).run E) (k:(opd y).run E'=(opd y).run E):(z1z x y f).run E' H=(z1z x y f).run E H:=by
 simp only[z1z]; rw[h,k]
theorem zhd {x:Option Operand} (h:∀ y,x=some y→(opd y).run E'=(opd y).run E):(optF x).run E'=(optF x).run E:=by
 cases x with
 | none=>rfl
 | some y=>simp only[optF]; rw[h y rfl]
theorem fillA_cong:∀ {ps:List Part} {cs:List AV},(∀ p∈ps,p.v.run E'=p.v.run E)→zfz cs ps E'=zfz cs ps E
 | [],_,_=>rfl
 | p::ps,cs,h=>by
  simp only[zfz]
  rw[h p (by simp)]
  split
  ·rfl
  ·split
   ·rfl
   ·split
    ·split
     ·exact fillA_cong (fun q hq=>h q (by simp[hq]))
     ·rfl
    ·rfl
theorem z7m {place:Nat→Option (Nat×Nat)}:∀ {l:List (Nat×Operand)} {ps:List Part},z80 place l=some ps→(∀ x∈l.map (·.2),(opd x).run E'=(opd x).run E)→∀ p∈ps,p.v.run E'=p.v.run E
 | [],ps,h,_,p,hp=>by cases h; cases hp
 | (i,x)::l,ps,h,hx,p,hp=>by
  simp only[z80] at h
  split at h
  ·cases h
  ·split at h
   ·cases h
   ·rename_i r hr
    cases h
    rcases List.mem_cons.1 hp with rfl | hp
    ·exact hx x (by simp)
    ·exact z7m hr (fun y hy=>hx y (by simp at hy ⊢; exact .inr hy)) p hp
end cong
theorem zsd {P:Program} {c:Call} {E E':Tr AV} {H:Heap} (h:∀ x∈c.operands.toList,(opd x).run E'=(opd x).run E):(zha P c).run E' H=(zha P c).run E H:=by
 have ha:∀ x∈c.args.toList,(opd x).run E'=(opd x).run E:=fun x hx=>h x (by simp[Call.operands] at hx ⊢; exact .inr hx)
 unfold zha
 split
 ·split
  ·split
   ·rename_i q; rw[q] at ha; unfold lenF; split <;> first | rfl | exact z0n (ha _ (by simp))
   ·rfl
  ·split
   ·rename_i q; rw[q] at ha; unfold capF; split <;> first | rfl | exact z0n (ha _ (by simp))
   ·rfl
  ·simp only[maxF]; rw[opds_cong ha]
  ·simp only[maxF]; rw[opds_cong ha]
  ·unfold zfp
   split
   ·rename_i q; rw[q] at ha
    split
    ·unfold zjg; split
     ·split
      ·exact z1a (ha _ (by simp)) (ha _ (by simp))
      ·rfl
     ·rfl
    ·unfold zab; split
     ·split
      ·exact z1a (ha _ (by simp)) (ha _ (by simp))
      ·rfl
     ·rfl
    ·unfold zab; split
     ·split
      ·exact z1a (ha _ (by simp)) (ha _ (by simp))
      ·rfl
     ·rfl
    ·rfl
   ·rfl
  ·unfold zvv
   split
   ·rename_i q; rw[q] at ha
    split
    ·split
     ·rfl
     ·split
      ·exact z1a (ha _ (by simp)) (ha _ (by simp))
      ·rfl
    ·rfl
   ·rfl
  ·unfold zlv
   split
   ·rename_i q; rw[q] at ha
    split
    ·split
     ·split
      ·exact z0n (ha _ (by simp))
      ·rfl
     ·rfl
    ·rfl
   ·rfl
  ·unfold zgr
   split
   ·rename_i q; rw[q] at ha
    split
    ·split
     ·exact z1a (ha _ (by simp)) (ha _ (by simp))
     ·rfl
    ·rfl
   ·rfl
  ·rfl
 ·rename_i f q
  have hf:(opd f).run E'=(opd f).run E:=h f (by simp[Call.operands,q])
  dsimp only
  rw[hf,opds_cong ha]
 ·rename_i r nm q
  have hf:(opd r).run E'=(opd r).run E:=h r (by simp[Call.operands,q])
  dsimp only
  rw[hf,opds_cong ha]
theorem zga {P:Program} {o:Op} {E E':Tr AV} {H:Heap} (h:∀ x∈o.operands.toList,(opd x).run E'=(opd x).run E):(z0i P o).run E' H=(z0i P o).run E H:=by
 unfold z0i
 split
 ·exact z0n (h _ (by simp[Op.operands]))
 ·exact z0n (h _ (by simp[Op.operands]))
 ·rename_i c a b
  dsimp only
  rw[h c (by simp[Op.operands]),h a (by simp[Op.operands]),h b (by simp[Op.operands])]
 ·split <;> rfl
 ·exact z0n (h _ (by simp[Op.operands]))
 ·rename_i t parts
  have hp:∀ x∈parts.toList.map (·.2),(opd x).run E'=(opd x).run E:=fun x hx=>h x (by simpa [Op.operands] using hx)
  unfold zfs
  split
  ·rfl
  ·split
   ·split
    ·rfl
    ·split
     ·rfl
     ·rename_i q; dsimp only; rw[fillA_cong (z7m q hp)]
   ·split
    ·rfl
    ·split
     ·rfl
     ·rename_i q; dsimp only; rw[fillA_cong (z7m q hp)]
   ·rfl
 ·rename_i t len parts
  have hp:∀ x∈parts.toList.map (·.2),(opd x).run E'=(opd x).run E:=fun x hx=>h x (by simpa [Op.operands] using hx)
  unfold z3n
  split
  ·split
   ·rfl
   ·split
    ·rfl
    ·split
     ·split
      ·rfl
      ·rename_i q; dsimp only; rw[fillA_cong (z7m q hp)]
     ·rfl
  ·rfl
 ·unfold zp8; split <;> first | rfl | exact z0n (h _ (by simp[Op.operands]))
 ·unfold zmc; split <;> first | rfl | exact z1a (h _ (by simp[Op.operands])) (h _ (by simp[Op.operands]))
 ·exact z0n (h _ (by simp[Op.operands]))
 ·exact z1a (h _ (by simp[Op.operands])) (h _ (by simp[Op.operands]))
 ·exact z0n (h _ (by simp[Op.operands]))
 ·unfold zah
  split
  ·exact z0n (h _ (by simp[Op.operands]))
  ·split <;> first | rfl | exact z0n (h _ (by simp[Op.operands]))
  ·exact z0n (h _ (by simp[Op.operands]))
  ·split <;> first | rfl | exact z0n (h _ (by simp[Op.operands]))
  ·rfl
 ·unfold z8y; split <;> first | rfl | exact z0n (h _ (by simp[Op.operands]))
 ·rename_i f first cap
  split
  ·rfl
  ·simp only[zbv]
   rw[opds_cong (l:=first.toList) (fun x hx=>h x (by simp[Op.operands] at hx ⊢; exact .inl hx)),opds_cong (l:=cap.toList) (fun x hx=>h x (by simp[Op.operands] at hx ⊢; exact .inr hx))]
 ·unfold zef
  split
  ·rfl
  ·split <;> first | rfl | exact z0n (h _ (by simp[Op.operands]))
 ·unfold z7f
  split
  ·split
   ·rfl
   ·split
    ·rfl
    ·split
     ·exact z1a (h _ (by simp[Op.operands])) (h _ (by simp[Op.operands]))
     ·rfl
  ·rfl
 ·rename_i t x lo hi mx
  have h1:=h x (by simp[Op.operands])
  have h2:(optF lo).run E'=(optF lo).run E:=zhd (fun y e=>h y (by simp[Op.operands,e]))
  have h3:(optF hi).run E'=(optF hi).run E:=zhd (fun y e=>h y (by simp[Op.operands,e]))
  have h4:(optF mx).run E'=(optF mx).run E:=zhd (fun y e=>h y (by simp[Op.operands,e]))
  unfold zcs
  split
  ·split
   ·rfl
   ·dsimp only; rw[h1,h2,h3]
  ·split
   ·rfl
   ·split
    ·rfl
    ·dsimp only; rw[h1,h2,h3,h4]
  ·split
   ·rfl
   ·split
    ·rfl
    ·dsimp only; rw[h1,h2,h3,h4]
  ·rfl
 ·unfold z5a
  split
  ·split
   ·rfl
   ·split <;> first | rfl | exact z0n (h _ (by simp[Op.operands]))
  ·rfl
 ·unfold zg4
  split
  ·split
   ·rfl
   ·split <;> first | rfl | exact z0n (h _ (by simp[Op.operands]))
  ·rfl
 ·unfold z54
  split
  ·split
   ·rfl
   ·exact z1a (h _ (by simp[Op.operands])) (h _ (by simp[Op.operands]))
  ·split
   ·rfl
   ·exact z1a (h _ (by simp[Op.operands])) (h _ (by simp[Op.operands]))
  ·rfl
 ·unfold zfo
  split
  ·exact z1a (h _ (by simp[Op.operands])) (h _ (by simp[Op.operands]))
  ·split
   ·exact z1a (h _ (by simp[Op.operands])) (h _ (by simp[Op.operands]))
   ·rfl
  ·rfl
 ·unfold zbx
  split
  ·split
   ·exact z1a (h _ (by simp[Op.operands])) (h _ (by simp[Op.operands]))
   ·rfl
  ·rfl
 ·rename_i t m k x
  unfold z55
  split
  ·split
   ·dsimp only; rw[h m (by simp[Op.operands]),h k (by simp[Op.operands]),h x (by simp[Op.operands])]
   ·rfl
  ·rfl
 ·rename_i t m k x
  unfold z55
  split
  ·split
   ·dsimp only; rw[h m (by simp[Op.operands]),h k (by simp[Op.operands]),h x (by simp[Op.operands])]
   ·rfl
  ·rfl
 ·unfold rangeF; split <;> first | rfl | exact z0n (h _ (by simp[Op.operands]))
 ·unfold zwy; split <;> first | rfl | exact z0n (h _ (by simp[Op.operands]))
 ·unfold zc1
  split
  ·rfl
  ·split
   ·rfl
   ·exact z0n (h _ (by simp[Op.operands]))
  ·rfl
 ·exact z0n (h _ (by simp[Op.operands]))
 ·exact zsd (fun x hx=>h x (by simpa [Op.operands] using hx))
 ·rfl
theorem z3m {ops:Array Oper} {o:Oper} {E E':Tr AV} (h:Same (z87 ops o) E' E):(z2w ops o).run E'=(z2w ops o).run E:=by
 unfold z2w
 split
 ·rfl
 ·rename_i j want hg
  split
  ·rfl
  ·rename_i d hd
   split
   ·rename_i hle
    dsimp only
    rw[h d (by simp[z87,hg,hd]) hle]
   ·rfl
end Go.Sv
namespace Go.Sv
inductive QR (H H2:Heap):OR→OR→Prop where
 | no:QR H H2 .no .no
 | val (v:AV):QR H H2 (.val v H) (.val v H2)
def z72 (F:OpF):Prop:=∀ E H H2,QR H H2 (F.run E H) (F.run E H2)
inductive RR (H:Heap):OR→Prop where
 | no:RR H .no
 | val (v:AV):RR H (.val v H)
def zd9 (F:OpF):Prop:=∀ E H,RR H (F.run E H)
theorem z72.reads {F:OpF} (h:z72 F):zd9 F:=fun E H=>by
 have:=h E H H
 generalize F.run E H=r at this
 cases this with
 | no=>exact .no
 | val v=>exact .val v
theorem quiet_stuck:z72 z0b:=fun _ _ _=>.no
theorem reads_stuck:zd9 z0b:=fun _ _=>.no
theorem QR.ret1 {H H2:Heap} (o:Option AV):QR H H2 (ret1 H o) (Sv.ret1 H2 o):=by cases o <;> constructor
theorem RR.ret1 {H:Heap} (o:Option AV):RR H (Sv.ret1 H o):=by cases o <;> constructor
theorem z19 {x:Operand} {f:Heap→AV→OR} (h:∀ a H H2,QR H H2 (f H a) (f H2 a)):z72 (z14 x f):=fun E H H2=>by
 simp only[z14]
 cases (opd x).run E with
 | none=>exact .no
 | some a=>exact h a H H2
theorem z5t {x y:Operand} {f:Heap→AV→AV→OR} (h:∀ a b H H2,QR H H2 (f H a b) (f H2 a b)):z72 (z1z x y f):=fun E H H2=>by
 simp only[z1z]
 cases (opd x).run E with
 | none=>exact .no
 | some a =>
  cases (opd y).run E with
  | none=>exact .no
  | some b=>exact h a b H H2
theorem z5e {x:Operand} {f:Heap→AV→OR} (h:∀ a H,RR H (f H a)):zd9 (z14 x f):=fun E H=>by
 simp only[z14]
 cases (opd x).run E with
 | none=>exact .no
 | some a=>exact h a H
theorem zmi {x y:Operand} {f:Heap→AV→AV→OR} (h:∀ a b H,RR H (f H a b)):zd9 (z1z x y f):=fun E H=>by
 simp only[z1z]
 cases (opd x).run E with
 | none=>exact .no
 | some a =>
  cases (opd y).run E with
  | none=>exact .no
  | some b=>exact h a b H
theorem zo3 (P:Program) (t:TypeId) (parts:Array (Nat×Operand)):z72 (zfs P t parts):=by
 unfold zfs
 split
 ·exact quiet_stuck
 ·split
  ·split
   ·exact quiet_stuck
   ·split
    ·exact quiet_stuck
    ·intro E H H2
     dsimp only
     split
     ·exact .val _
     ·exact .no
  ·split
   ·exact quiet_stuck
   ·split
    ·exact quiet_stuck
    ·intro E H H2
     dsimp only
     split
     ·exact .val _
     ·exact .no
  ·exact quiet_stuck
theorem zi0 (H H2:Heap) (a:AV):QR H H2 (z6n H a) (z6n H2 a):=by
 unfold z6n
 split <;> constructor
theorem zkd (P:Program) (t:TypeId) (x:Operand):z72 (z8y P t x):=by
 unfold z8y
 split
 ·exact quiet_stuck
 ·exact z19 fun a H H2=>.val _
 ·exact quiet_stuck
theorem zlk (f:Fn) (x y:Array Operand):z72 (zbv f x y):=fun E H H2=>by
 simp only[zbv]
 split
 ·split <;> constructor
 ·exact .no
theorem zhc (P:Program) (s:TypeId) (x:Operand) (f:Nat):z72 (z5a P s x f):=by
 unfold z5a
 split
 ·split
  ·exact quiet_stuck
  ·split
   ·exact quiet_stuck
   ·exact quiet_stuck
   ·exact z19 fun a H H2=>by split <;> constructor
 ·exact quiet_stuck
theorem zop (P:Program) (s:TypeId) (x:Operand) (f:Nat):z72 (zg4 P s x f):=by
 unfold zg4
 split
 ·split
  ·exact quiet_stuck
  ·split
   ·exact z19 fun a H H2=>by
     split
     ·exact .ret1 _
     ·exact .no
   ·exact quiet_stuck
 ·exact quiet_stuck
theorem zgl (P:Program) (t:TypeId) (x ix:Operand):z72 (z54 P t x ix):=by
 unfold z54
 split
 ·split
  ·exact quiet_stuck
  ·refine z5t fun a b H H2=>?_
   split
   ·rename_i len esz _ _ n
    cases Nat.blt n len
    ·exact .no
    ·dsimp only
     split <;> constructor
   ·exact .no
 ·split
  ·exact quiet_stuck
  ·refine z5t fun a b H H2=>?_
   split
   ·split <;> constructor
   ·exact .no
 ·exact quiet_stuck
theorem zp7 (P:Program) (t:TypeId) (x ix:Operand):z72 (zfo P t x ix):=by
 unfold zfo
 split
 ·refine z5t fun a b H H2=>?_
  split
  ·split <;> constructor
  ·exact .no
 ·split
  ·refine z5t fun a b H H2=>?_
   split
   ·split
    ·exact .ret1 _
    ·exact .no
   ·exact .no
  ·exact quiet_stuck
 ·exact quiet_stuck
theorem znm (P:Program) (x:Operand) (t:TypeId) (ok:Bool):z72 (zc1 P x t ok):=by
 unfold zc1
 split
 ·exact quiet_stuck
 ·split
  ·exact quiet_stuck
  ·refine z19 fun a H H2=>?_
   split
   ·cases ok <;> constructor
   ·split
    ·constructor
    ·cases ok <;> constructor
   ·exact .no
 ·exact quiet_stuck
theorem zjo (x:Operand) (i:Nat):z72 (zf4 x i):=z19 fun a H H2=>by
 split
 ·exact .ret1 _
 ·exact .no
theorem zh9 {P:Program} {t:TypeId} {x:Operand} {lo hi mx:Option Operand} (h:zmm P t=false):z72 (zcs P t x lo hi mx):=by
 unfold zcs
 split
 ·split
  ·exact quiet_stuck
  ·intro E H H2
   dsimp only
   split
   ·split
    ·split <;> constructor
    ·exact .no
   ·exact .no
 ·split
  ·exact quiet_stuck
  ·split
   ·exact quiet_stuck
   ·intro E H H2
    dsimp only
    split
    ·exact .ret1 _
    ·split <;> constructor
    ·split <;> constructor
    ·exact .no
 ·rename_i q
  simp[zmm,q] at h
 ·exact quiet_stuck
theorem zny (P:Program) (t:TypeId) (x:Operand) (lo hi mx:Option Operand):zd9 (zcs P t x lo hi mx):=by
 cases hq:zmm P t
 ·exact (zh9 hq).reads
 ·unfold zmm at hq
  unfold zcs
  split at hq
  ·rename_i q
   rw[q]
   dsimp only
   split
   ·exact reads_stuck
   ·split
    ·exact reads_stuck
    ·intro E H
     dsimp only
     split
     ·split
      ·split
       ·split
        ·exact .ret1 _
        ·exact .no
       ·exact .no
      ·exact .no
     ·exact .no
  ·cases hq
theorem zsc {P:Program} {s d:TypeId} {x:Operand} (hd:zn7 P d=false) (hs:zn7 P s=false):z72 (zah P s d x):=by
 unfold zah
 split
 ·exact z19 fun a H H2=>by split <;> constructor
 ·rename_i q _; simp[zn7,q] at hs
 ·exact z19 fun a H H2=>by split <;> constructor
 ·rename_i q; simp[zn7,q] at hd
 ·exact quiet_stuck
theorem zru {P:Program} {s d:TypeId} {x:Operand} (hd:zn7 P d=false):zd9 (zah P s d x):=by
 unfold zah
 split
 ·exact z5e fun a H=>by split <;> constructor
 ·split
  ·refine z5e fun a H=>?_
   split
   ·exact .val _
   ·split
    ·split <;> constructor
    ·exact .no
   ·exact .no
  ·exact reads_stuck
 ·exact z5e fun a H=>by split <;> constructor
 ·rename_i q; simp[zn7,q] at hd
 ·exact reads_stuck
theorem zse (P:Program) (t:TypeId) (x:Operand):zd9 (zp8 P t x):=by
 unfold zp8
 split
 ·exact z5e fun a H=>by
   split
   ·split <;> constructor
   ·exact .no
 ·exact z5e fun a H=>by
   split
   ·split <;> constructor
   ·exact .no
 ·exact reads_stuck
theorem znh (P:Program) (t:TypeId) (x ix:Operand) (ok:Bool):zd9 (zbx P t x ix ok):=by
 unfold zbx
 split
 ·split
  ·refine zmi fun a b H=>?_
   split
   ·exact .no
   ·split <;> constructor
  ·exact reads_stuck
 ·exact reads_stuck
theorem zmw {P:Program} {t:TypeId} {x:Operand} (h:zmn P t=false):z72 (lenF P t x):=by
 unfold lenF
 split
 ·exact z19 fun a H H2=>by split <;> constructor
 ·exact z19 fun a H H2=>by split <;> constructor
 ·rename_i q; simp[zmn,q] at h
 ·exact z19 fun a H H2=>.val _
 ·exact quiet_stuck
theorem ztp (P:Program) (t:TypeId) (x:Operand):zd9 (lenF P t x):=by
 cases hq:zmn P t
 ·exact (zmw hq).reads
 ·unfold zmn at hq
  unfold lenF
  split at hq
  ·rename_i q
   rw[q]
   refine z5e fun a H=>?_
   split
   ·exact .val _
   ·split <;> constructor
   ·exact .no
  ·cases hq
theorem zsw (P:Program) (t:TypeId) (x:Operand):z72 (capF P t x):=by
 unfold capF
 split
 ·exact z19 fun a H H2=>by split <;> constructor
 ·exact quiet_stuck
theorem zmg (mx:Bool) (l:List Operand):z72 (maxF mx l):=fun E H H2=>by
 simp only[maxF]
 split
 ·exact .ret1 _
 ·exact .no
theorem znn {P:Program} {c:Call}:(zdd P c=.quiet→z72 (zha P c))∧(zdd P c=.rd→zd9 (zha P c)):=by
 unfold zdd zha
 split
 ·rename_i q
  rw[q]
  dsimp only
  split
  ·rename_i t ht
   rw[ht]
   split
   ·rename_i hm
    exact⟨fun h=>(by cases h),fun _=>by
     split
     ·exact ztp _ _ _
     ·exact reads_stuck⟩
   ·rename_i hm
    refine⟨fun _=>?_,fun h=>by cases h⟩
    split
    ·rename_i e _ ; cases e; exact zmw (by simpa using hm)
    ·exact quiet_stuck
  ·exact⟨fun h=>(by cases h),fun h=>by cases h⟩
 ·rename_i q
  rw[q]
  refine⟨fun _=>?_,fun h=>by cases h⟩
  dsimp only
  split
  ·exact zsw _ _ _
  ·exact quiet_stuck
 ·rename_i q
  rw[q]
  exact⟨fun _=>zmg _ _,fun h=>by cases h⟩
 ·rename_i q
  rw[q]
  exact⟨fun _=>zmg _ _,fun h=>by cases h⟩
 ·exact⟨fun h=>(by cases h),fun h=>by cases h⟩
theorem zay {P:Program} {o:Op}:(cls P o=.quiet→z72 (z0i P o))∧(cls P o=.rd→zd9 (z0i P o)):=by
 unfold cls
 split
 ·exact⟨fun _=>z19 fun a H H2=>.val _,fun h=>by cases h⟩
 ·exact⟨fun _=>z19 fun a H H2=>.val _,fun h=>by cases h⟩
 ·refine⟨fun _ E H H2=>?_,fun h=>by cases h⟩
  simp only[z0i]
  split
  ·exact .ret1 _
  ·exact .ret1 _
  ·exact .no
 ·exact⟨fun _=>zo3 _ _ _,fun h=>by cases h⟩
 ·exact⟨fun _=>z19 fun a H H2=>zi0 _ _ _,fun h=>by cases h⟩
 ·exact⟨fun _=>z5t fun a b H H2=>.ret1 _,fun h=>by cases h⟩
 ·exact⟨fun _=>z19 fun a H H2=>.ret1 _,fun h=>by cases h⟩
 ·exact⟨fun _=>zkd _ _ _,fun h=>by cases h⟩
 ·rename_i f x y
  refine⟨fun _=>?_,fun h=>by cases h⟩
  simp only[z0i]
  split
  ·exact quiet_stuck
  ·exact zlk _ _ _
 ·exact⟨fun _=>zhc _ _ _ _,fun h=>by cases h⟩
 ·exact⟨fun _=>zop _ _ _ _,fun h=>by cases h⟩
 ·exact⟨fun _=>zgl _ _ _ _,fun h=>by cases h⟩
 ·exact⟨fun _=>zp7 _ _ _ _,fun h=>by cases h⟩
 ·exact⟨fun _=>znm _ _ _ _,fun h=>by cases h⟩
 ·exact⟨fun _=>zjo _ _,fun h=>by cases h⟩
 ·split
  ·exact⟨fun h=>(by cases h),fun _=>zny _ _ _ _ _ _⟩
  ·rename_i h
   exact⟨fun _=>zh9 (by simpa using h),fun h=>by cases h⟩
 ·split
  ·exact⟨fun h=>(by cases h),fun h=>by cases h⟩
  ·rename_i hd
   split
   ·exact⟨fun h=>(by cases h),fun _=>zru (by simpa using hd)⟩
   ·rename_i hs
    exact⟨fun _=>zsc (by simpa using hd) (by simpa using hs),fun h=>by cases h⟩
 ·exact⟨fun h=>(by cases h),fun _=>zse _ _ _⟩
 ·exact⟨fun h=>(by cases h),fun _=>znh _ _ _ _ _⟩
 ·exact znn
 all_goals exact⟨fun h=>(by cases h),fun h=>by cases h⟩
theorem z5k {P:Program} {n:Nat} {ops:Array Oper} {o:Oper} {k:z3c} {E E1:Tr AV} {H H1:Heap} (h:(z0l P n ops o).run k E H=.ok E1 H1) :
  ∃ v,E1=putE o.dst v E∧(∀ d,o.dst=some d→d < n)∧∀ E',Same (z87 ops o) E' E→(z0l P n ops o).run k E' H=.ok (putE o.dst v E') H1:=by
 unfold z0l at h ⊢
 cases hp:putF n o.dst with
 | none=>rw[hp] at h; cases h
 | some p =>
  rw[hp] at h
  dsimp only at h ⊢
  obtain⟨hput,hlt⟩:=zaa hp
  have hcg:∀ E',Same (z87 ops o) E' E→(z0i P o.op).run E' H=(z0i P o.op).run E H:=fun E' hs =>
   zga (Same.opds (fun t ht=>hs t (by simp[z87,ht])))
  cases hg:(z2w ops o).run E with
  | false =>
   rw[hg] at h
   cases h
   refine⟨z23,hput _ _,hlt,fun E' hs=>?_⟩
   rw[z3m hs,hg]
   dsimp only
   rw[hput]
  | true =>
   rw[hg] at h
   dsimp only at h
   cases hr:(z0i P o.op).run E H with
   | no=>rw[hr] at h; cases h
   | val v H2 =>
    rw[hr] at h
    cases h
    refine⟨v,hput _ _,hlt,fun E' hs=>?_⟩
    rw[z3m hs,hg,hcg E' hs,hr]
    dsimp only
    rw[hput]
   | call t args =>
    rw[hr] at h
    dsimp only at h
    cases hc:k t args H with
    | no=>rw[hc] at h; cases h
    | ok v H2 =>
     rw[hc] at h
     cases h
     refine⟨v,hput _ _,hlt,fun E' hs=>?_⟩
     rw[z3m hs,hg,hcg E' hs,hr]
     dsimp only
     rw[hc]
     dsimp only
     rw[hput]
theorem z5j {P:Program} {n:Nat} {ops:Array Oper} {o:Oper} {k:z3c} {E E1:Tr AV} {H H1:Heap} (hq:zd9 (z0i P o.op)) (h:(z0l P n ops o).run k E H=.ok E1 H1):H1=H:=by
 unfold z0l at h
 cases hp:putF n o.dst with
 | none=>rw[hp] at h; cases h
 | some p =>
  rw[hp] at h
  dsimp only at h
  cases hg:(z2w ops o).run E with
  | false=>rw[hg] at h; cases h; rfl
  | true =>
   rw[hg] at h
   dsimp only at h
   have hr:=hq E H
   generalize (z0i P o.op).run E H=r at h hr
   cases hr with
   | no=>cases h
   | val v=>cases h; rfl
theorem zhp {P:Program} {n:Nat} {ops:Array Oper} {o:Oper} {k:z3c} {E E1:Tr AV} {H H1:Heap} (hq:z72 (z0i P o.op)) (h:(z0l P n ops o).run k E H=.ok E1 H1) (H2:Heap) :
  (z0l P n ops o).run k E H2=.ok E1 H2:=by
 unfold z0l at h ⊢
 cases hp:putF n o.dst with
 | none=>rw[hp] at h; cases h
 | some p =>
  rw[hp] at h
  dsimp only at h ⊢
  cases hg:(z2w ops o).run E with
  | false=>rw[hg] at h; cases h; rfl
  | true =>
   rw[hg] at h
   dsimp only at h ⊢
   have hr:=hq E H H2
   generalize (z0i P o.op).run E H=r at h hr
   generalize (z0i P o.op).run E H2=r2 at hr ⊢
   cases hr with
   | no=>cases h
   | val v=>cases h; rfl
end Go.Sv
namespace Go.Sv
theorem eqAV_spec:∀ (n:Nat) (a b:AV),eqAV n a b=true→a=b
 | 0,_,_,h=>by cases h
 | n+1,a,b,h=>by
  have hl:∀ (x y:List AV),eqL (eqAV n) x y=true→x=y:=by
   intro x
   induction x with
   | nil=>intro y hy; cases y with
    | nil=>rfl
    | cons _ _=>cases hy
   | cons c x ih =>
    intro y hy
    cases y with
    | nil=>cases hy
    | cons d y =>
     simp only[eqL] at hy
     split at hy
     ·rename_i hc; rw[eqAV_spec n c d hc,ih y hy]
     ·cases hy
  have hn:∀ {x y:Nat},Nat.beq x y=true→x=y:=fun h=>Nat.eq_of_beq_eq_true h
  unfold eqAV at h
  split at h
  ·simp only[beq_iff_eq] at h; rw[h]
  ·simp only[Bool.and_eq_true,z8w,beq_iff_eq] at h; rw[z6u h.1,h.2]
  ·simp only[Bool.and_eq_true] at h; rw[hn h.1,hn h.2]
  ·rfl
  ·simp only[Bool.and_eq_true] at h; rw[hn h.1.1,hn h.1.2,hn h.2]
  ·rfl
  ·simp only[Bool.and_eq_true,beq_iff_eq] at h
   obtain⟨⟨⟨⟨⟨h1,h2⟩,h3⟩,h4⟩,h5⟩,h6⟩:=h
   rw[hn h1,hn h2,hn h3,hn h4,hn h5,h6]
  ·rfl
  ·rfl
  ·rw[hn h]
  ·rfl
  ·simp only[Bool.and_eq_true] at h; rw[hn h.1.1,hl _ _ h.1.2,hl _ _ h.2]
  ·simp only[Bool.and_eq_true] at h; rw[hn h.1.1,hl _ _ h.1.2,hl _ _ h.2]
  ·rfl
  ·simp only[Bool.and_eq_true] at h; rw[hn h.1,eqAV_spec n _ _ h.2]
  ·rw[hl _ _ h]
  ·rw[hl _ _ h]
  ·cases h
theorem z1r (a b j:Nat):(Nat.lor a b).testBit j=(a.testBit j || b.testBit j):=Nat.testBit_or a b j
theorem z30 (i j:Nat):(2 ^ i).testBit j=decide (i=j):=Nat.testBit_two_pow
theorem zk6 {a b:Nat} (h:Nat.beq (Nat.land a b) a=true) (j:Nat) (hj:a.testBit j=true):b.testBit j=true:=by
 have e:a &&& b=a:=Nat.eq_of_beq_eq_true h
 rw[←e,Nat.testBit_and] at hj
 simp only[Bool.and_eq_true] at hj
 exact hj.2
theorem bitsOf_spec:∀ {l:List Nat} {t:Nat},t∈l→(zmj l).testBit t=true
 | [],_,h=>by cases h
 | a::l,t,h=>by
  simp only[zmj,z1r,z30,Bool.or_eq_true,decide_eq_true_eq]
  rcases List.mem_cons.1 h with rfl | h
  ·exact .inl rfl
  ·exact .inr (bitsOf_spec h)
theorem z8z {acc:List Nat}:∀ {l:List Edge} {j:Nat},(ze4 acc l).testBit j=true↔∃ e∈l,Region.binds .any e=true∧(j=e.on∨(acc.getD e.on 0).testBit j=true)
 | [],j=>by simp[ze4]
 | e::l,j=>by
  simp only[ze4]
  split
  ·rename_i hb
   simp only[z1r,z30,Bool.or_eq_true,decide_eq_true_eq,z8z,List.mem_cons,exists_eq_or_imp,hb,true_and]
   constructor
   ·rintro ((h | h) | h)
    ·exact .inl (.inl h.symm)
    ·exact .inl (.inr h)
    ·exact .inr h
   ·rintro ((h | h) | h)
    ·exact .inl (.inl h.symm)
    ·exact .inl (.inr h)
    ·exact .inr h
  ·rename_i hb
   simp only[z8z,List.mem_cons,exists_eq_or_imp,hb,Bool.false_eq_true,false_and,false_or]
theorem z1o {α:Type} {f:α→Bool}:∀ {l:List α} {x:α},x∈z07 f l↔x∈l∧f x=true
 | [],x=>by simp[z07]
 | a::l,x=>by
  simp only[z07]
  split
  ·rename_i h
   simp only[List.mem_cons,z1o]
   constructor
   ·rintro (rfl | h')
    ·exact⟨.inl rfl,h⟩
    ·exact⟨.inr h'.1,h'.2⟩
   ·rintro⟨rfl | h1,h2⟩
    ·exact .inl rfl
    ·exact .inr ⟨h1,h2⟩
  ·rename_i h
   simp only[List.mem_cons,z1o]
   constructor
   ·rintro⟨h1,h2⟩; exact⟨.inr h1,h2⟩
   ·rintro⟨rfl | h1,h2⟩
    ·rw[h] at h2; cases h2
    ·exact⟨h1,h2⟩
theorem zj7 {α:Type} {f:α→Bool}:∀ {l:List α},allB f l=true→∀ x∈l,f x=true
 | [],_,x,hx=>by cases hx
 | a::l,h,x,hx=>by
  simp only[allB] at h
  split at h
  ·rename_i ha
   rcases List.mem_cons.1 hx with rfl | hx
   ·exact ha
   ·exact zj7 h x hx
  ·cases h
structure LOk (P:Program) (ops:Array Oper) (L:List DOp):Prop where
 op:∀ x∈L,ops[x.i]?=some x.o∧x.i < ops.size
 all:∀ i,i < ops.size→∃ x∈L,x.i=i
 inj:∀ x∈L,∀ y∈L,x.i=y.i→x=y
 cl:∀ x∈L,x.c=cls P x.o.op
 lm:∀ x∈L,∀ t∈z87 ops x.o,x.lm.testBit t=true
 msk:∀ x∈L,∀ j,x.m.testBit j=true→∃ e∈x.o.after.toList,Region.binds .any e=true∧(j=e.on∨∃ y∈L,y.i=e.on∧y.m.testBit j=true)
 edge:∀ x∈L,∀ e∈x.o.after.toList,Region.binds .any e=true→x.m.testBit e.on=true
theorem zeu (P:Program) (ops:Array Oper):∀ (l:List Oper) (acc:List Nat) (i:Nat) (j:Nat),(dops P ops l acc i).length=l.length∧∀ x,(dops P ops l acc i)[j]?=some x →
  x.i=i+j∧l[j]?=some x.o∧x.c=cls P x.o.op∧x.lm=zmj (z87 ops x.o)∧x.m=ze4 (acc++((dops P ops l acc i).take j).map (·.m)) x.o.after.toList
 | [],acc,i,j=>⟨rfl,fun x h=>by simp[dops] at h⟩
 | o::l,acc,i,0=>⟨by simp[dops,(zeu P ops l _ (i+1) 0).1],fun x h=>by
   simp only[dops,List.getElem?_cons_zero,Option.some.injEq] at h
   subst h
   exact⟨rfl,rfl,rfl,rfl,by simp⟩⟩
 | o::l,acc,i,j+1=>⟨by simp[dops,(zeu P ops l _ (i+1) 0).1],fun x h=>by
   simp only[dops,List.getElem?_cons_succ] at h
   obtain⟨h1,h2,h3,h4,h5⟩:=(zeu P ops l _ (i+1) j).2 x h
   refine⟨by omega,by simpa using h2,h3,h4,?_⟩
   rw[h5]
   simp[dops]⟩
theorem dops_ok (P:Program) (ops:Array Oper):LOk P ops (dops P ops ops.toList [] 0):=by
 have hg:=zeu P ops ops.toList [] 0
 have hlen:(dops P ops ops.toList [] 0).length=ops.size:=by rw[(hg 0).1]; simp
 have hm:∀ x∈dops P ops ops.toList [] 0,∃ j,(dops P ops ops.toList [] 0)[j]?=some x∧x.i=j:=fun x hx=>by
  obtain⟨j,hj⟩:=List.mem_iff_getElem?.1 hx
  exact⟨j,hj,by have:=((hg j).2 x hj).1; omega⟩
 refine⟨fun x hx=>?_,fun i hi=>?_,fun x hx y hy e=>?_,fun x hx=>?_,fun x hx t ht=>?_,fun x hx j hj=>?_,fun x hx e he hb=>?_⟩
 ·obtain⟨j,hj,e⟩:=hm x hx
  obtain⟨_,h2,_⟩:=(hg j).2 x hj
  rw[e]
  have:j < ops.size:=by
   have:=(List.getElem?_eq_some_iff.1 hj).1
   omega
  exact⟨by simpa using h2,this⟩
 ·exact ⟨(dops P ops ops.toList [] 0)[i]'(by omega), List.getElem_mem _, by
   have:=((hg i).2 _ (List.getElem?_eq_getElem (by omega))).1
   omega⟩
 ·obtain⟨j,hj,e1⟩:=hm x hx
  obtain⟨j',hj',e2⟩:=hm y hy
  have:j=j':=by omega
  subst this
  rw[hj] at hj'
  cases hj'
  rfl
 ·obtain⟨j,hj,e1⟩:=hm x hx
  exact ((hg j).2 x hj).2.2.1
 ·obtain⟨j,hj,e1⟩:=hm x hx
  rw[((hg j).2 x hj).2.2.2.1]
  exact bitsOf_spec ht
 ·obtain⟨i,hi,e1⟩:=hm x hx
  rw[((hg i).2 x hi).2.2.2.2] at hj
  obtain⟨e,he,hb,h⟩:=z8z.1 hj
  refine⟨e,he,hb,h.imp id fun h=>?_⟩
  rw[List.nil_append,List.getD_eq_getElem?_getD,List.getElem?_map] at h
  cases hq:((dops P ops ops.toList [] 0).take i)[e.on]? with
  | none=>rw[hq] at h; simp at h
  | some y =>
   rw[hq] at h
   have hy:=List.mem_iff_getElem?.2 ⟨e.on,hq⟩
   rw[List.getElem?_take] at hq
   split at hq
   ·exact⟨y,List.mem_iff_getElem?.2 ⟨_,hq⟩,by have:=((hg e.on).2 y hq).1; omega,h⟩
   ·cases hq
 ·obtain⟨i,hi,e1⟩:=hm x hx
  rw[((hg i).2 x hi).2.2.2.2]
  exact z8z.2 ⟨e,he,hb,.inl rfl⟩
theorem dstsOk_spec:∀ {l:List DOp} {seen:Nat},zlt l seen=true→(∀ x∈l,∀ d,x.o.dst=some d→seen.testBit d=false)∧∀ x∈l,∀ y∈l,∀ d,x.o.dst=some d→y.o.dst=some d→x=y
 | [],_,_=>⟨fun x hx=>(by cases hx),fun x hx=>by cases hx⟩
 | a::l,seen,h=>by
  simp only[zlt] at h
  split at h
  ·rename_i ha
   obtain⟨h1,h2⟩:=dstsOk_spec h
   refine⟨fun x hx d hd=>?_,fun x hx y hy d hd hd'=>?_⟩
   ·rcases List.mem_cons.1 hx with rfl | hx
    ·rw[ha] at hd; cases hd
    ·exact h1 x hx d hd
   ·rcases List.mem_cons.1 hx with rfl | hx
    ·rw[ha] at hd; cases hd
    ·rcases List.mem_cons.1 hy with rfl | hy
     ·rw[ha] at hd'; cases hd'
     ·exact h2 x hx y hy d hd hd'
  ·rename_i d0 ha
   split at h
   ·cases h
   ·rename_i hs
    obtain⟨h1,h2⟩:=dstsOk_spec h
    have h3:∀ x∈l,x.o.dst≠some d0:=fun x hx e=>by
     have:=h1 x hx d0 e
     rw[z1r,z30] at this
     simp at this
    refine⟨fun x hx d hd=>?_,fun x hx y hy d hd hd'=>?_⟩
    ·rcases List.mem_cons.1 hx with rfl | hx
     ·rw[ha] at hd; cases hd; simpa using hs
     ·have:=h1 x hx d hd
      rw[z1r] at this
      simp only[Bool.or_eq_false_iff] at this
      exact this.2
    ·rcases List.mem_cons.1 hx with ex | kx <;> rcases List.mem_cons.1 hy with ey | ky
     ·rw[ex,ey]
     ·subst ex; rw[ha] at hd; cases hd; exact absurd hd' (h3 y ky)
     ·subst ey; rw[ha] at hd'; cases hd'; exact absurd hd (h3 x kx)
     ·exact h2 x kx y ky d hd hd'
theorem zch {x:DOp}:isCh x=true↔x.c=.ch:=by
 unfold isCh
 constructor
 ·intro h; split at h
  ·assumption
  ·cases h
 ·intro h; rw[h]
theorem zgz {x:DOp}:zob x=true↔x.c=.quiet:=by
 unfold zob
 constructor
 ·intro h; split at h
  ·assumption
  ·cases h
 ·intro h; rw[h]
theorem z88 {x:DOp} {l:List DOp} {seen chs s:Nat} (h:topo (x::l) seen chs=some s):(∀ j,x.m.testBit j=true→seen.testBit j=true)∧seen.testBit x.i=false ∧
  ((x.c=.quiet∧topo l (Nat.lor (2 ^ x.i) seen) chs=some s) ∨
   ((x.c=.rd∨x.c=.al)∧(∀ j,chs.testBit j=true→x.m.testBit j=true)∧topo l (Nat.lor (2 ^ x.i) seen) chs=some s) ∨
   (x.c=.ch∧(∀ j,chs.testBit j=true→x.m.testBit j=true)∧topo l (Nat.lor (2 ^ x.i) seen) (Nat.lor (2 ^ x.i) chs)=some s)):=by
 simp only[topo] at h
 split at h
 ·cases h
 ·rename_i h1
  split at h
  ·cases h
  ·rename_i h2
   refine⟨fun j hj=>zk6 h1 j hj,by simpa using h2,?_⟩
   split at h
   ·rename_i h3
    exact .inl ⟨zgz.1 h3,h⟩
   ·rename_i h3
    split at h
    ·cases h
    ·rename_i h4
     split at h
     ·rename_i h5
      exact .inr (.inr ⟨zch.1 h5,fun j hj=>zk6 h4 j hj,h⟩)
     ·rename_i h5
      refine .inr (.inl ⟨?_,fun j hj=>zk6 h4 j hj,h⟩)
      cases hc:x.c with
      | quiet=>rw[zgz.2 hc] at h3; cases h3
      | rd=>exact .inl rfl
      | al=>exact .inr rfl
      | ch=>rw[zch.2 hc] at h5; cases h5
theorem topo_seen:∀ {l:List DOp} {seen chs s:Nat},topo l seen chs=some s→∀ j,s.testBit j=true↔(seen.testBit j=true∨∃ x∈l,x.i=j)
 | [],seen,chs,s,h,j=>by simp only[topo,Option.some.injEq] at h; subst h; simp
 | x::l,seen,chs,s,h,j=>by
  obtain⟨_,_,h3⟩:=z88 h
  have key:∀ chs',topo l (Nat.lor (2 ^ x.i) seen) chs'=some s→(s.testBit j=true↔(seen.testBit j=true∨∃ y∈x::l,y.i=j)):=fun chs' h'=>by
   rw[topo_seen h' j,z1r,z30]
   simp only[Bool.or_eq_true,decide_eq_true_eq,List.mem_cons,exists_eq_or_imp]
   constructor
   ·rintro ((h | h) | h)
    ·exact .inr (.inl h)
    ·exact .inl h
    ·exact .inr (.inr h)
   ·rintro (h | h | h)
    ·exact .inl (.inr h)
    ·exact .inl (.inl h)
    ·exact .inr h
  rcases h3 with ⟨_,h3⟩ | ⟨_,_,h3⟩ | ⟨_,_,h3⟩ <;> exact key _ h3
theorem topo_new:∀ {l:List DOp} {seen chs s:Nat},topo l seen chs=some s→∀ x∈l,seen.testBit x.i=false
 | [],_,_,_,_,x,hx=>by cases hx
 | y::l,seen,chs,s,h,x,hx=>by
  obtain⟨_,h2,h3⟩:=z88 h
  rcases List.mem_cons.1 hx with rfl | hx
  ·exact h2
  ·have key:∀ chs',topo l (Nat.lor (2 ^ y.i) seen) chs'=some s→seen.testBit x.i=false:=fun chs' h'=>by
    have:=topo_new h' x hx
    rw[z1r] at this
    simp only[Bool.or_eq_false_iff] at this
    exact this.2
   rcases h3 with ⟨_,h3⟩ | ⟨_,_,h3⟩ | ⟨_,_,h3⟩ <;> exact key _ h3
theorem topo_chs:∀ {l:List DOp} {seen chs s:Nat},topo l seen chs=some s→∀ x∈l,x.c≠.quiet→∀ j,chs.testBit j=true→x.m.testBit j=true
 | [],_,_,_,_,_,hx=>by cases hx
 | y::l,seen,chs,s,h,x,hx=>by
  intro hq j hj
  obtain⟨_,h2,h3⟩:=z88 h
  rcases List.mem_cons.1 hx with rfl | hx
  ·rcases h3 with ⟨e,h3⟩ | ⟨e,h4,h3⟩ | ⟨e,h4,h3⟩
   ·exact absurd e hq
   ·exact h4 j hj
   ·exact h4 j hj
  ·rcases h3 with ⟨e,h3⟩ | ⟨e,h4,h3⟩ | ⟨e,h4,h3⟩
   ·exact topo_chs h3 x hx hq j hj
   ·exact topo_chs h3 x hx hq j hj
   ·exact topo_chs h3 x hx hq j (by rw[z1r,hj]; simp)
theorem zkx {L chain:List DOp} {p:Nat}:∀ x∈phase L chain p,x∈L:=fun _ hx=>(z1o.1 hx).1
theorem zfl {L chain:List DOp}:∀ {l:List DOp} {p:Nat},(∀ x∈l,x∈L)→∀ x∈zkk L chain l p,x∈L
 | [],_,_,_,hx=>by cases hx
 | c::l,p,h,x,hx=>by
  simp only[zkk,List.mem_cons,List.mem_append] at hx
  rcases hx with rfl | hx | hx
  ·exact h _ (by simp)
  ·exact zkx x hx
  ·exact zfl (fun y hy=>h y (by simp[hy])) x hx
theorem zww {L:List DOp}:∀ x∈zvo L (z07 isCh L),x∈L:=fun x hx=>by
 simp only[zvo,List.mem_append] at hx
 rcases hx with hx | hx
 ·exact zkx x hx
 ·exact zfl (fun y hy=>(z1o.1 hy).1) x hx
end Go.Sv
namespace Go.Sv
open Go.RowKit (Below)
def zn4 (ob:AObj):Prop:=∀ B C w o,(∀ v,C.f o v=none)→ObjR B C w o ob
def MkOk (P:Program) (C:CM) (w:World) (nx:Sem Next) (v:AV) (ob:AObj):Prop :=
 ∃ blk n sz x,nx.run P w=.ok (.value x) (w.alloc blk)∧∀ (C1:CM) (id:Nat),C.keep C1→C1 id 0=some ⟨w.heap.size,0,n,sz⟩ →
  VR C1 (reId id v) x∧∀ B,B≤w.heap.size→ObjR B C1 (w.alloc blk) id ob
def MkR (P:Program) (E:Tr AV) (H:Heap) (nx:(Operand→Value)→Sem Next):OR→Prop
 | .no=>True
 | .val v H1=>∃ ob,True∧H1=H.push ob∧idOf v=some H.next∧zn4 ob∧∀ C w ρ,zno C E ρ→MkOk P C w (nx ρ) v ob
 | .call _ _=>False
def Mk (P:Program) (F:OpF) (nx:(Operand→Value)→Sem Next):Prop:=∀ E H,MkR P E H nx (F.run E H)
theorem Mk.congr {P:Program} {F:OpF} {nx nx':(Operand→Value)→Sem Next} (h:∀ ρ,nx ρ=nx' ρ) (s:Mk P F nx):Mk P F nx':=by
 rw[show nx'=nx from funext fun ρ=>(h ρ).symm]; exact s
theorem z5m (P:Program) (nx:(Operand→Value)→Sem Next):Mk P z0b nx:=fun _ _=>trivial
theorem zc8 {H H':Heap} {l:List AV} {o:Nat} (h:newObj H l=some (o,H')):True∧True∧o=H.next∧H'=H.push (.cells (z0g l 0 .e) l.length 0 false):=by
 unfold newObj at h
 cases h
 exact⟨trivial,trivial,rfl,rfl⟩
theorem zjy {l:List AV} (_:True):zn4 (.cells (z0g l 0 .e) l.length 0 false):=fun B C w o hn=>fun L hL=>by rw[hn] at hL; cases hL
theorem row_mk {P:Program} {C:CM} {w:World} {l:List AV} {cs:Array Value} {t:TypeId} (_hl:True) (hv:VRs C l cs.toList) (h1:∀ a∈l,a.one=true) {nx:Sem Next} {v:AV} {x:Value}
  (hnx:nx.run P w=.ok (.value x) (w.alloc (.cells cs t))) (hx:∀ (C1:CM) (id:Nat),C1 id 0=some ⟨w.heap.size,0,l.length,cs.size⟩→VR C1 (reId id v) x) :
  MkOk P C w nx v (.cells (z0g l 0 .e) l.length 0 false):=by
 have hlen:l.length=cs.toList.length:=hv.length
 have hlen':l.length=cs.size:=by simpa using hlen
 refine⟨_,l.length,cs.size,x,hnx,fun C1 id hk hL=>⟨hx C1 id hL,fun B hB=>fun L hL'=>?_⟩⟩
 rw[hL] at hL'
 cases hL'
 refine⟨rfl,fun _=>hB,by dsimp; omega,cs,t,0,0,z17 _ _,Nat.le_refl _,fun i _ _=>by omega,?_⟩
 intro k hk'
 rw[get_ofList l 0 .e k,if_pos (by omega)]
 obtain⟨a,v,q1,q2,q3⟩:=hv.get' (i:=k) hk'
 refine⟨a,by simpa using q1,h1 a (List.mem_of_getElem? q1),v,?_,q3.mono' hk⟩
 simpa using q2
theorem zmt {P:Program} {H:Heap} {l:List AV} {E:Tr AV} {nx:(Operand→Value)→Sem Next} {t:TypeId}
  (hnx:∀ C w ρ,zno C E ρ→∃ cs:Array Value,VRs C l cs.toList∧(∀ a∈l,a.one=true)∧(nx ρ).run P w=.ok (.value (.pointer (some ⟨w.heap.size,0,none⟩))) (w.alloc (.cells cs t))) :
  MkR P E H nx (z47 H l):=by
 unfold z47
 split
 ·rename_i o H' hn
  obtain⟨q1,q2,rfl,rfl⟩:=zc8 hn
  refine⟨_,q1,rfl,rfl,zjy q2,fun C w ρ hρ=>?_⟩
  obtain⟨cs,k1,k2,k3⟩:=hnx C w ρ hρ
  refine row_mk q2 k1 k2 k3 (fun C1 id hL=>?_)
  simpa [reId] using VR.ptr (i:=0) hL
 ·exact trivial
theorem alloc_mk (P:Program) (t:TypeId):Mk P (z0i P (.alloc t)) (fun _=>do pure (.value (←Instr.alloc t true (.tuple #[])))):=by
 intro E H
 show MkR P E H _ (OpF.run (match z5v P t with
  | some l=>⟨fun _ H=>z47 H l⟩
  | none=>z0b) E H)
 cases hz:z5v P t with
 | none=>exact trivial
 | some l =>
  refine zmt (t:=t) (fun C w ρ hρ=>?_)
  obtain⟨v,i,h1,h2,h3,h4⟩:=z61 (w:=w) hz
  obtain⟨k1,k2⟩:=z2u (C:=C) h2
  exact⟨v.cells,k1,k2,by simp[Instr.alloc,h1,newVar,newRow]⟩
theorem zml {P:Program} {x:Operand} {f:Heap→AV→OR} {nx:(Operand→Value)→Sem Next} (h:∀ E H a,(opd x).run E=some a→MkR P E H nx (f H a)):Mk P (z14 x f) nx:=by
 intro E H
 show MkR P E H nx (Option.rec OR.no (fun a=>f H a) ((opd x).run E))
 cases hx:(opd x).run E with
 | none=>exact trivial
 | some a=>exact h _ _ _ hx
theorem zs7 {P:Program} {x y:Operand} {f:Heap→AV→AV→OR} {nx:(Operand→Value)→Sem Next} (h:∀ E H a b,(opd x).run E=some a→(opd y).run E=some b→MkR P E H nx (f H a b)):Mk P (z1z x y f) nx:=by
 intro E H
 show MkR P E H nx (Option.rec OR.no (fun a=>Option.rec OR.no (fun b=>f H a b) ((opd y).run E)) ((opd x).run E))
 cases hx:(opd x).run E with
 | none=>exact trivial
 | some a =>
  cases hy:(opd y).run E with
  | none=>exact trivial
  | some b=>exact h _ _ _ _ hx hy
theorem box_mk (P:Program) (t:TypeId) (x:Operand):Mk P (z0i P (.box t x)) (fun ρ=>do pure (.value (←Instr.box t (ρ x)))):=by
 refine zml fun E H a ha=>?_
 cases hc:a.cells with
 | none=>exact trivial
 | some l =>
  refine zmt (t:=t) (fun C w ρ hρ=>?_)
  obtain⟨k1,k2⟩:=(hρ _ _ ha).cells hc
  exact⟨_,k1,k2,by simp[Instr.box,newVar,newRow]⟩
theorem zqb {P:Program} {C:CM} {w:World} (t:TypeId) {l:List AV} {o len esz:Nat} {cs:Array Value} (_hl:True) (hv:VRs C l cs.toList) (h1:∀ a∈l,a.one=true) {cap:Nat} (hc:cap * esz=l.length) (hle:len≤cap)
  {nx:Sem Next} (hnx:nx.run P w=.ok (.value (.slice (some ⟨w.heap.size,0,none⟩) len cap)) (w.alloc (.cells cs t))):MkOk P C w nx (.sl o 0 0 len esz (some cap)) (.cells (z0g l 0 .e) l.length 0 false):=by
 have hlen:l.length=cs.toList.length:=hv.length
 have hlen':l.length=cs.size:=by simpa using hlen
 have hmul:len * esz≤cap * esz:=Nat.mul_le_mul_right _ hle
 refine row_mk _hl hv h1 hnx (fun C1 id hL=>?_)
 have:=VR.sl (i:=0) (len:=len) (esz:=esz) (room:=some cap) (cap:=cap) hL (by dsimp; omega) (by dsimp; omega) hle (fun r hr=>by cases hr; exact⟨rfl,by dsimp; omega⟩) (fun h=>by cases h)
 simpa [reId] using this
theorem zj5 (P:Program) (t:TypeId) (len:Nat) (parts:Array (Nat×Operand)) :
  Mk P (z3n P t len parts) (fun ρ=>do pure (.value (←Instr.buildSlice t len (parts.map fun (i,x)=>(i,ρ x))))):=by
 unfold z3n
 split
 ·rename_i elem hu
  split
  ·exact z5m P _
  ·rename_i size hs
   split
   ·exact z5m P _
   ·rename_i z hz
    split
    ·rename_i hcond
     obtain⟨hsz,hpos⟩:=hcond
     split
     ·exact z5m P _
     ·rename_i ps hps
      intro E H
      dsimp only
      split
      ·rename_i l hl
       split
       ·rename_i o H' hn
        obtain⟨n1,n2,rfl,rfl⟩:=zc8 hn
        refine⟨_,n1,rfl,rfl,zjy n2,fun C w ρ hρ=>?_⟩
        obtain⟨v,i,h1,h2,h3,h4⟩:=z61 (w:=w) hz
        obtain⟨k1,k2⟩:=z2u (C:=C) h2
        have hzs:v.cells.size=size:=by
         have e1:=k1.length
         unfold z1i at hs; rw[h3] at hs; simp at hs e1; omega
        have hzl:z.length=size:=by have e1:=k1.length; simp at e1; omega
        have hrel:VRs C (z1y z len) ((Array.range (len * size)).map fun i=>v.cells[i % v.cells.size]!).toList:=by
         rw[←hzs,zax]; exact z4d k1 len
        obtain⟨vs,q1,q2,q3⟩:=z5x hps hρ hl hrel (z4c k2 len)
        have hll:l.length=len * size:=by
         have e1:=q2.length
         have e3:=zgi q1
         simp at e3 e1; omega
        refine zqb elem n2 q2 q3 hll.symm (Nat.le_refl _) ?_
        have hf:Instr.fill (fun i=>some (i * size,size)) ((Array.range (len * size)).map fun i=>v.cells[i % v.cells.size]!) (parts.map fun (i,x)=>(i,ρ x)).toList=some vs:=by
         rw[Array.toList_map]; exact q1
        have hbig:¬ (len * size > 2 ^ 24):=by omega
        simp only[Instr.buildSlice,Sem.run_bind,z0a hu,z16 hs,Result.andThen_ok,Sem.run_ite,if_neg hbig]
        by_cases h0:len * size=0
        ·rw[if_pos h0]
         have hf0:Instr.fill (fun i=>some (i * size,size)) ((Array.range (len * size)).map fun i=>(#[]:Array Value)[i % (#[]:Array Value).size]!) (parts.map fun (i,x)=>(i,ρ x)).toList=some vs:=by
          rw[←hf,h0,ze1,ze1]
         simp only[Sem.run_pure,Result.andThen_ok,hf0,newRow,Sem.run_bind,run_newObj]
         rfl
        ·rw[if_neg h0]
         simp only[Sem.run_bind,h1,Sem.run_pure,Result.andThen_ok,hf,newRow,run_newObj]
         rfl
       ·exact trivial
      ·exact trivial
    ·exact z5m P _
 ·exact z5m P _
theorem zrl (P:Program) (t:TypeId) (l c:Operand):Mk P (z7f P t l c) (fun ρ=>do pure (.value (←Instr.makeSlice t (ρ l) (ρ c)))):=by
 unfold z7f
 split
 ·rename_i elem hu
  split
  ·exact z5m P _
  ·rename_i i hi
   split
   ·exact z5m P _
   ·rename_i z hz
    split
    ·rename_i hcond
     obtain⟨hpos,hby⟩:=hcond
     refine zs7 fun E H a b ha0 hb0=>?_
     split
     ·rename_i x y
      split
      ·rename_i hxy
       split
       ·rename_i hy
        split
        ·rename_i o H' hn
         obtain⟨n1,n2,rfl,rfl⟩:=zc8 hn
         refine⟨_,n1,rfl,rfl,zjy n2,fun C w ρ hρ=>?_⟩
         have ha:=hρ _ _ ha0
         have hb:=hρ _ _ hb0
         have hxy':x≤y:=Nat.le_of_ble_eq_true hxy
         have hy':y≤1048576:=Nat.le_of_ble_eq_true hy
         obtain⟨v,j,h1,h2,h3,h4⟩:=z61 (w:=w) hz
         obtain⟨k1,k2⟩:=z2u (C:=C) h2
         rw[hi] at h3; cases h3
         have hzs:v.cells.size=i.size:=by have e1:=k1.length; simp at e1; omega
         generalize hpl:ρ l=pl at ha
         generalize hpc:ρ c=pc at hb
         cases ha; cases hb
         refine zqb elem n2 (cs:=(Array.range (y * i.size)).map fun k=>v.cells[k % v.cells.size]!) (by rw[←hzs,zax]; exact z4d k1 y) (z4c k2 y) (by rw[z5p,h4]) hxy' ?_
         have e1:IntKind.i64.wrap (Int.ofNat x)=Int.ofNat x:=by simp only[IntKind.wrap,IntKind.bits,IntKind.signed]; simp; omega
         have e2:IntKind.i64.wrap (Int.ofNat y)=Int.ofNat y:=by simp only[IntKind.wrap,IntKind.bits,IntKind.signed]; simp; omega
         have e3:i.bytes * y≤65536 * 1048576:=Nat.mul_le_mul hby hy'
         have e4:¬ ((decide (Int.ofNat y < 0) || decide ((i.bytes:Int) * Int.ofNat y > 2 ^ 48) || decide (Int.ofNat x < 0) || decide (Int.ofNat x > Int.ofNat y))=true):=by
          have e5:((i.bytes:Int) * Int.ofNat y)=((i.bytes * y:Nat):Int):=by simp
          rw[e5]
          simp only[Bool.or_eq_true,decide_eq_true_eq,not_or]
          refine⟨⟨⟨by simp,by simp; omega⟩,by simp⟩,by simp; omega⟩
         simp only[Instr.makeSlice,hpl,hpc,Sem.run_bind,z0a hu,z5o hi,asInt,asIntOf,Sem.run_pure,Result.andThen_ok,e1,e2,Sem.run_ite,if_neg e4,run_askRoom,z16 (show z1i P elem=some i.size from by simp[z1i,hi])]
         have e6:(Int.ofNat y).toNat=y:=rfl
         have e7:(Int.ofNat x).toNat=x:=rfl
         rw[e6,e7]
         by_cases h0:y * i.size=0
         ·rw[if_pos h0]
          simp only[Sem.run_pure,Result.andThen_ok,newRow,Sem.run_bind,run_newObj]
          have:((Array.range (y * i.size)).map fun k=>(#[]:Array Value)[k % (#[]:Array Value).size]!)=((Array.range (y * i.size)).map fun k=>v.cells[k % v.cells.size]!):=by rw[h0,ze1,ze1]
          rw[this]; rfl
         ·rw[if_neg h0]
          simp only[Sem.run_bind,h1,Sem.run_pure,Result.andThen_ok,newRow,run_newObj]
          rfl
        ·exact trivial
       ·exact trivial
      ·exact trivial
     ·exact trivial
    ·exact z5m P _
 ·exact z5m P _
theorem zj2 {P:Program} {H:Heap} {E:Tr AV} {nx:(Operand→Value)→Sem Next}
  (hnx:∀ (C:CM) w ρ,zno C E ρ→(nx ρ).run P w=.ok (.value (.map (some w.heap.size))) (w.alloc (.map #[] 0))):MkR P E H nx (z52 H):=by
 unfold z52
 refine⟨_,trivial,rfl,rfl,fun B C w o hn L hL=>(by rw[hn] at hL; cases hL),fun C w ρ hρ=>?_⟩
 refine⟨_,0,0,_,hnx C w ρ hρ,fun C1 id hk hL=>⟨.map hL,fun B hB L hL'=>?_⟩⟩
 rw[hL] at hL'
 cases hL'
 exact⟨hB,#[],z17 _ _,.nil⟩
theorem mkMap_mk (P:Program) (t:TypeId) (r:Option Operand):Mk P (zef P t r) (fun ρ=>do pure (.value (←Instr.makeMap t (r.map ρ)))):=by
 unfold zef
 split
 ·intro E H
  exact zj2 (fun C w ρ hρ=>by simp[Instr.makeMap])
 ·rename_i x
  split
  ·rename_i k e hu
   refine zml fun E H a ha=>?_
   split
   ·refine zj2 (fun C w ρ hρ=>?_)
    have:=hρ _ _ ha
    generalize hx:ρ x=px at this
    cases this
    simp[Instr.makeMap,z0a hu,hx,asInt,asIntOf]
   ·exact trivial
  ·exact z5m P _
theorem zq6 {P:Program} {o:Oper} (h:cls P o.op=.al):Mk P (z0i P o.op) (fun ρ=>execOp ρ o):=by
 generalize ho:o.op=op at h
 cases op with
 | alloc t=>exact Mk.congr (fun ρ=>by simp only[execOp,ho]) (alloc_mk P t)
 | box t x=>exact Mk.congr (fun ρ=>by simp[execOp,ho]) (box_mk P t x)
 | buildSlice t n ps=>exact Mk.congr (fun ρ=>by simp[execOp,ho]) (zj5 P t n ps)
 | makeMap t r=>exact Mk.congr (fun ρ=>by simp[execOp,ho]) (mkMap_mk P t r)
 | makeSlice t l c=>exact Mk.congr (fun ρ=>by simp[execOp,ho]) (zrl P t l c)
 | slice t _ _ _ _=>simp only[cls] at h; split at h <;> cases h
 | convert s d x=>simp only[cls] at h; split at h <;> first | (cases h; done) | (split at h <;> cases h)
 | call c =>
  simp only[cls,zdd] at h
  split at h
  ·split at h
   ·split at h <;> cases h
   ·cases h
  all_goals cases h
 | _=>cases h
def CM.lift (C:CM) (n:Nat):CM:=⟨C.f,n⟩
theorem CM.le_lift {C:CM} {n:Nat} (h:C.nx≤n):C.le (C.lift n):=⟨fun _ _ _ h=>h,h,fun _ v L h=>.inl ⟨v,L,h⟩⟩
inductive Ups:Heap→Heap→Prop where
 | refl (H:Heap):Ups H H
 | push {H H':Heap} {ob:AObj} (hl:True) (hf:zn4 ob) (h:Ups (H.push ob) H'):Ups H H'
theorem Ups.next {H H':Heap} (h:Ups H H'):H.next≤H'.next:=by
 induction h with
 | refl=>exact Nat.le_refl _
 | push _ _ _ ih=>exact Nat.le_trans (Nat.le_succ _) ih
theorem Rel.up {w0:World} {C:CM} {H:Heap} {w:World} (h:Rel w0 C H w) (_:True) {ob:AObj} (hf:zn4 ob):Rel w0 (C.lift (H.next+1)) (H.push ob) w:=by
 have hle:C.le (C.lift (H.next+1)):=CM.le_lift (by rw[h.nx]; exact Nat.le_succ _)
 refine⟨rfl,h.low,fun o v L hL=>?_,h.lt,h.excl,?_,?_⟩
 ·show o < H.next+1
  have:=h.fresh o v L hL; omega
 ·intro o ob' ho hg
  by_cases e:o=H.next
  ·subst e; rw[Heap.get_push_same] at hg; cases hg; exact hf _ _ _ _ (fun v=>h.next_none v)
  ·have ho':o < H.next:=by have:o < H.next+1:=ho; omega
   rw[Heap.get_push_ne _ _ ho'] at hg
   exact (h.obj _ _ ho' hg).frame hle (fun v L hL=>hL) (fun v L hL=>rfl)
 ·intro o c len ver ro ho hg v L hL
  by_cases e:o=H.next
  ·subst e; have:=h.fresh _ _ _ hL; omega
  ·have ho':o < H.next:=by have:o < H.next+1:=ho; omega
   rw[Heap.get_push_ne _ _ ho'] at hg
   exact h.top _ _ _ _ _ ho' hg _ _ hL
theorem Rel.ups {w0:World} {H H':Heap} {w:World} (hu:Ups H H'):∀ {C:CM},Rel w0 C H w→Rel w0 (C.lift H'.next) H' w:=by
 induction hu with
 | refl H=>intro C h; rw[←h.nx]; exact h
 | push hl hf _ ih =>
  intro C h
  have h1:=h.up hl hf
  have h2:=ih h1
  exact h2
theorem zl0 {c c':Tr AV} {len:Nat} (h:zp5 c c' len=true):∀ j,j < len→getP (z09 j) c=getP (z09 j) c':=by
 unfold zp5 at h
 split at h
 ·rename_i l l' h1 h2
  obtain⟨k1,k2⟩:=z1k h1
  obtain⟨k3,k4⟩:=z1k h2
  have he:l=l':=by
   have:∀ (x y:List AV),eqL (eqAV 30) x y=true→x=y:=by
    intro x
    induction x with
    | nil=>intro y hy; cases y with
     | nil=>rfl
     | cons _ _=>cases hy
    | cons c x ih =>
     intro y hy
     cases y with
     | nil=>cases hy
     | cons d y =>
      simp only[eqL] at hy
      split at hy
      ·rename_i hc; rw[eqAV_spec 30 c d hc,ih y hy]
      ·cases hy
   exact this _ _ h
  intro j hj
  have e1:=k2 j hj
  have e2:=k4 j hj
  rw[Nat.zero_add] at e1 e2
  rw[e1,e2,he]
 ·cases h
theorem ObjR.eqObj {B:Nat} {C:CM} {w:World} {o:Nat} {a b:AObj} (h:Sv.eqObj a b=true) (k:ObjR B C w o b):ObjR B C w o a:=by
 unfold Sv.eqObj at h
 split at h
 ·rename_i c len ver ro c' len' ver' ro'
  simp only[Bool.and_eq_true] at h
  obtain⟨⟨⟨h1,h2⟩,h3⟩,h4⟩:=h
  obtain rfl:=Nat.eq_of_beq_eq_true h1
  obtain rfl:=Nat.eq_of_beq_eq_true h2
  obtain rfl:ro=ro':=by simpa using h3
  intro L hL
  obtain⟨p1,p2,p3,vs,e,lo,hi,p4,p5,p6,p7⟩:=k L hL
  exact⟨p1,p2,p3,vs,e,lo,hi,p4,p5,p6,fun i hi=>by rw[zl0 h4 i hi]; exact p7 i hi⟩
 ·obtain rfl:=Nat.eq_of_beq_eq_true h
  exact k
 ·cases h
theorem ziu {α:Type} {b:Bool} {x y:α} (hb:b=true→x=y) (h:zcw b x y=true):x=y:=by
 unfold zcw at h
 split at h
 ·exact hb rfl
 ·exact @of_decide_eq_true _ (Classical.propDecidable _) h
theorem sameB_or {α:Type} {b:Bool} {x y:α} (h:zcw b x y=true):b=true∨x=y:=by
 unfold zcw at h
 split at h
 ·exact .inl rfl
 ·exact .inr (@of_decide_eq_true _ (Classical.propDecidable _) h)
theorem ObjR.same {B:Nat} {C:CM} {w:World} {o:Nat} {a b:AObj} (h:zcw (Sv.eqObj a b) a b=true) (k:ObjR B C w o b):ObjR B C w o a:=by
 rcases sameB_or h with h | h
 ·exact k.eqObj h
 ·rw[h]; exact k
theorem Rel.bind {w0:World} {C:CM} {H:Heap} {w:World} (h:Rel w0 C H w) {id n sz:Nat} (hid:id < H.next) (hn:∀ v,C id v=none) {ob:AObj} (hg:H.get id=some ob) (blk:Obj)
  (hob:ObjR w0.heap.size (C.ext id 0 ⟨w.heap.size,0,n,sz⟩) (w.alloc blk) id ob):Rel w0 (C.ext id 0 ⟨w.heap.size,0,n,sz⟩) H (w.alloc blk)∧C.keep (C.ext id 0 ⟨w.heap.size,0,n,sz⟩):=by
 have hk:C.keep (C.ext id 0 ⟨w.heap.size,0,n,sz⟩):=fun o' v' L' h'=>by
  by_cases e:o'=id∧v'=0
  ·obtain⟨rfl,rfl⟩:=e; rw[hn] at h'; cases h'
  ·rw[CM.ext_ne C _ e]; exact h'
 refine⟨⟨by show max C.nx (id+1)=H.next; rw[h.nx]; omega,h.low.alloc h.low.size blk,?_,?_,?_,?_,?_⟩,hk⟩
 ·intro o v L hL
  by_cases e:o=id∧v=0
  ·omega
  ·rw[CM.ext_ne _ _ e] at hL; exact h.fresh _ _ _ hL
 ·intro o v L hL
  rw[World.size_alloc]
  by_cases e:o=id∧v=0
  ·obtain⟨rfl,rfl⟩:=e; rw[CM.ext_same] at hL; cases hL; exact Nat.lt_succ_self _
  ·rw[CM.ext_ne _ _ e] at hL; have:=h.lt _ _ _ hL; omega
 ·intro o v L o' v' L' hL hL' hb hB
  by_cases e:o=id∧v=0 <;> by_cases e':o'=id∧v'=0
  ·omega
  ·obtain⟨rfl,rfl⟩:=e
   rw[CM.ext_same] at hL; cases hL
   rw[CM.ext_ne _ _ e'] at hL'; have:=h.lt _ _ _ hL'; dsimp at hb; omega
  ·obtain⟨rfl,rfl⟩:=e'
   rw[CM.ext_same] at hL'; cases hL'
   rw[CM.ext_ne _ _ e] at hL; have:=h.lt _ _ _ hL; dsimp at hb; omega
  ·rw[CM.ext_ne _ _ e] at hL; rw[CM.ext_ne _ _ e'] at hL'; exact h.excl _ _ _ _ _ _ hL hL' hb hB
 ·intro o ob' ho hg'
  by_cases e:o=id
  ·subst e; rw[hg] at hg'; cases hg'; exact hob
  ·have hob':=h.obj _ _ ho hg'
   refine hob'.frame' hk (fun v L hL=>?_) (fun v L hL=>z6f _ _ (h.lt _ _ _ hL))
   rwa [CM.ext_ne _ _ (by omega)] at hL
 ·intro o c len ver ro ho hg' v L hL
  by_cases e:o=id∧v=0
  ·omega
  ·rw[CM.ext_ne _ _ e] at hL
   exact h.top _ _ _ _ _ ho hg' _ _ hL
end Go.Sv
namespace Go.Sv
section zo9
variable {P : Program} {n : Nat} {ops : Array Oper} {k : z3c} {L : List DOp} {E0 Ef : Tr AV}
def InS (L:List DOp) (S:Nat→Prop) (t:Nat):Prop:=∃ y∈L,S y.i∧y.o.dst=some t
open Classical in
noncomputable def zhq (L:List DOp) (E0 Ef:Tr AV) (S:Nat→Prop) (t:Nat):Option AV:=if InS L S t then getP (z09 t) Ef else getP (z09 t) E0
def bit (m:Nat) (j:Nat):Prop:=m.testBit j=true
def z9e (L:List DOp) (E0 Ef:Tr AV) (S:Nat→Prop) (E:Tr AV):Prop:=∀ t,t≤lim→getP (z09 t) E=zhq L E0 Ef S t
def z6d (ops:Array Oper) (L:List DOp) (E0 Ef:Tr AV) (x:DOp) (E:Tr AV):Prop:=∀ t∈z87 ops x.o,t≤lim→getP (z09 t) E=zhq L E0 Ef (bit x.m) t
def Spec (P:Program) (n:Nat) (ops:Array Oper) (k:z3c) (L:List DOp) (E0 Ef:Tr AV) (x:DOp) (H H':Heap):Prop :=
 ∀ E,z6d ops L E0 Ef x E→∃ v,(z0l P n ops x.o).run k E H=.ok (putE x.o.dst v E) H'∧∀ d,x.o.dst=some d→getP (z09 d) Ef=some v∧d < n
def DC (L:List DOp) (S:Nat→Prop):Prop:=∀ y∈L,S y.i→∀ j,bit y.m j→S j
structure Fit (P:Program) (ops:Array Oper) (L:List DOp):Prop where
 ok:LOk P ops L
 dst:∀ x∈L,∀ y∈L,∀ d,x.o.dst=some d→y.o.dst=some d→x=y
 look:∀ x∈L,∀ y∈L,zqj x y=true
theorem znt {x y:DOp} (h:zqj x y=true) {d:Nat} (hd:y.o.dst=some d) (hl:x.lm.testBit d=true) :
  (x.i=y.i∧isRd x=false)∨(x.i≠y.i∧(bit x.m y.i∨(bit y.m x.i∧isRd x=false))):=by
 unfold zqj at h
 rw[hd] at h
 dsimp only at h
 rw[hl] at h
 dsimp only at h
 split at h
 ·rename_i e
  exact .inl ⟨Nat.eq_of_beq_eq_true e,by simpa using h⟩
 ·rename_i e
  refine .inr ⟨fun q=>?_,?_⟩
  ·rw[q,Nat.beq_refl] at e; cases e
  ·split at h
   ·rename_i q; exact .inl q
   ·split at h
    ·rename_i q; exact .inr ⟨q,by simpa using h⟩
    ·cases h
theorem agree (F:Fit P ops L) {S:Nat→Prop} (hS:DC L S) {x:DOp} (hx:x∈L) (hm:∀ j,bit x.m j→S j) (hn:¬ S x.i∨isRd x=true) {E:Tr AV} (hE:z9e L E0 Ef S E):z6d ops L E0 Ef x E:=by
 intro t ht hl
 rw[hE t hl]
 unfold zhq
 have:InS L S t↔InS L (bit x.m) t:=by
  constructor
  ·rintro⟨y,hy,hs,hd⟩
   refine⟨y,hy,?_,hd⟩
   rcases znt (F.look x hx y hy) hd (F.ok.lm x hx t ht) with ⟨e,hr⟩ | ⟨_,h | ⟨h,hr⟩⟩
   ·rcases hn with hn | hn
    ·rw[e] at hn; exact absurd hs hn
    ·rw[hn] at hr; cases hr
   ·exact h
   ·rcases hn with hn | hn
    ·exact absurd (hS y hy hs _ h) hn
    ·rw[hn] at hr; cases hr
  ·rintro⟨y,hy,hs,hd⟩
   exact⟨y,hy,hm _ hs,hd⟩
 by_cases h:InS L S t
 ·rw[if_pos h,if_pos (this.1 h)]
 ·rw[if_neg h,if_neg (fun q=>h (this.2 q))]
theorem z6d.same {x:DOp} {E E':Tr AV} (h:z6d ops L E0 Ef x E) (h':z6d ops L E0 Ef x E'):Same (z87 ops x.o) E' E:=fun t ht hl=>by rw[h t ht hl,h' t ht hl]
theorem z5r (d:Tmp) (v:AV) (E:Tr AV):getP (z09 d) (putE (some d) v E)=some v:=zaj _ _ _
theorem z93 {x:DOp} {E E1:Tr AV} {H H1:Heap} (h:(z0l P n ops x.o).run k E H=.ok E1 H1) (hE:z6d ops L E0 Ef x E)
  (hf:∀ d,x.o.dst=some d→d < n→getP (z09 d) Ef=getP (z09 d) E1):Spec P n ops k L E0 Ef x H H1:=by
 obtain⟨v,h1,h2,h3⟩:=z5k h
 intro E' hE'
 refine⟨v,h3 E' (hE.same hE'),fun d hd=>⟨?_,h2 d hd⟩⟩
 rw[hf d hd (h2 d hd),h1,hd,z5r]
theorem z9e.put (F:Fit P ops L) (_hn:n≤lim) {S:Nat→Prop} {E:Tr AV} (h:z9e L E0 Ef S E) {x:DOp} (hx:x∈L) {v:AV} (hv:∀ d,x.o.dst=some d→getP (z09 d) Ef=some v∧d < n) :
  z9e L E0 Ef (fun j=>S j∨j=x.i) (putE x.o.dst v E):=by
 intro t ht
 have key:InS L (fun j=>S j∨j=x.i) t↔(InS L S t∨x.o.dst=some t):=by
  constructor
  ·rintro⟨y,hy,hs | hs,hd⟩
   ·exact .inl ⟨y,hy,hs,hd⟩
   ·rw[F.ok.inj y hy x hx hs] at hd; exact .inr hd
  ·rintro (⟨y,hy,hs,hd⟩ | hd)
   ·exact⟨y,hy,.inl hs,hd⟩
   ·exact⟨x,hx,.inr rfl,hd⟩
 unfold zhq
 cases hd:x.o.dst with
 | none =>
  rw[hd] at key
  have:InS L (fun j=>S j∨j=x.i) t↔InS L S t:=by rw[key]; simp
  rw[show putE none v E=E from rfl,h t ht]
  unfold zhq
  by_cases q:InS L S t
  ·rw[if_pos q,if_pos (this.2 q)]
  ·rw[if_neg q,if_neg (fun z=>q (this.1 z))]
 | some d =>
  rw[hd] at key
  obtain⟨hv1,hv2⟩:=hv d hd
  rw[show putE (some d) v E=setP v (z09 d) E from rfl,zg8]
  by_cases e:t=d
  ·subst e
   rw[if_pos rfl,if_pos (key.2 (.inr rfl)),hv1]
  ·rw[if_neg e,h t ht]
   unfold zhq
   have:InS L (fun j=>S j∨j=x.i) t↔InS L S t:=by
    rw[key]
    constructor
    ·rintro (q | q)
     ·exact q
     ·exact absurd (Option.some.inj q).symm e
    ·exact .inl
   by_cases q:InS L S t
   ·rw[if_pos q,if_pos (this.2 q)]
   ·rw[if_neg q,if_neg (fun z=>q (this.1 z))]
theorem zd6 {r:OE} {f:Tr AV→Heap→OE} {E':Tr AV} {H':Heap} (h:(OE.rec .no f r:OE)=.ok E' H'):∃ E1 H1,r=.ok E1 H1∧f E1 H1=.ok E' H':=by
 cases r with
 | no=>cases h
 | ok E1 H1=>exact⟨E1,H1,rfl,h⟩
theorem z8o {b:Bool} {r:OE} {E':Tr AV} {H':Heap} (h:(Bool.rec .no r b:OE)=.ok E' H'):b=true∧r=.ok E' H':=by
 cases b with
 | false=>cases h
 | true=>exact⟨rfl,h⟩
theorem zhk {x:DOp} {l pend:List DOp} {E E':Tr AV} {H H':Heap} (h:(z4k P n ops (x::l) pend).run k E H=.ok E' H') :
  ∃ E1 H1 pend',(z0l P n ops x.o).run k E H=.ok E1 H1∧(z4k P n ops l pend').run k E1 H1=.ok E' H' ∧
   ((x.c=.quiet∧pend'=pend)∨(x.c=.rd∧pend'=x::pend)∨(x.c=.al∧pend'=x::pend∧(z6h P ops (x::pend)).run E1 H1=true) ∨
    (x.c=.ch∧pend'=z07 (fun y=>!(Nat.testBit x.m y.i)) pend∧(z6h P ops pend').run E1 H1=true)):=by
 simp only[z4k] at h
 split at h
 ·rename_i hc
  obtain⟨E1,H1,h1,h2⟩:=zd6 h
  exact⟨E1,H1,pend,h1,h2,.inl ⟨hc,rfl⟩⟩
 ·rename_i hc
  obtain⟨E1,H1,h1,h2⟩:=zd6 h
  exact⟨E1,H1,x::pend,h1,h2,.inr (.inl ⟨hc,rfl⟩)⟩
 ·rename_i hc
  obtain⟨E1,H1,h1,h2⟩:=zd6 h
  obtain⟨hr,h2⟩:=z8o h2
  exact⟨E1,H1,x::pend,h1,h2,.inr (.inr (.inl ⟨hc,rfl,hr⟩))⟩
 ·rename_i hc
  obtain⟨E1,H1,h1,h2⟩:=zd6 h
  obtain⟨hr,h2⟩:=z8o h2
  exact⟨E1,H1,_,h1,h2,.inr (.inr (.inr ⟨hc,rfl,hr⟩))⟩
theorem ze8 (hn:n≤lim) {d:Nat} (hd:d≤lim):∀ {l pend:List DOp} {E E':Tr AV} {H H':Heap},(z4k P n ops l pend).run k E H=.ok E' H'→(∀ y∈l,y.o.dst≠some d)→getP (z09 d) E'=getP (z09 d) E
 | [],_,_,_,_,_,h,_=>by cases h; rfl
 | x::l,pend,E,E',H,H',h,hy=>by
  obtain⟨E1,H1,pend',h1,h2,_⟩:=zhk h
  rw[ze8 hn hd h2 (fun y q=>hy y (by simp[q]))]
  obtain⟨v,q1,q2,_⟩:=z5k h1
  rw[q1]
  cases hx:x.o.dst with
  | none=>rfl
  | some e =>
   rw[show putE (some e) v E=setP v (z09 e) E from rfl,z4v]
   intro q
   subst q
   exact hy x (by simp) hx
theorem rechecks_mem:∀ {l:List DOp} {E:Tr AV} {H:Heap},(z6h P ops l).run E H=true→∀ x∈l,(z6b P ops x).run E H=true
 | [],_,_,_,x,hx=>by cases hx
 | y::l,E,H,h,x,hx=>by
  simp only[z6h] at h
  split at h
  ·rename_i hy
   rcases List.mem_cons.1 hx with rfl | hx
   ·exact hy
   ·exact rechecks_mem h x hx
  ·cases h
theorem znj (F:Fit P ops L) {x:DOp} (hx:x∈L) (hr:x.c=.rd) {E:Tr AV} {H H1:Heap} (hE:z6d ops L E0 Ef x E) (hs:Spec P n ops k L E0 Ef x H H) (hf:∀ d,x.o.dst=some d→getP (z09 d) Ef=getP (z09 d) E)
  (h:(z6b P ops x).run E H1=true):Spec P n ops k L E0 Ef x H1 H1:=by
 have hrd:zd9 (z0i P x.o.op):=zay.2 (by rw[←F.ok.cl x hx]; exact hr)
 obtain⟨v,h1,h2⟩:=hs E hE
 unfold z6b at h
 cases hd:x.o.dst with
 | none=>rw[hd] at h; cases h
 | some d =>
  rw[hd] at h h1
  dsimp only at h
  obtain⟨hv,hdn⟩:=h2 d hd
  have hp:putF n (some d)=some ⟨fun a E=>setP a (z09 d) E⟩:=by unfold putF; dsimp only; rw[if_pos hdn]
  have hrun:(z0l P n ops x.o).run k E H1=.ok (putE (some d) v E) H1:=by
   unfold z0l at h1 ⊢
   rw[hd,hp] at h1 ⊢
   dsimp only at h1 ⊢
   cases hg:(z2w ops x.o).run E with
   | false =>
    rw[hg] at h1
    dsimp only at h1 ⊢
    injection h1 with h1
    rw[h1]
   | true =>
    rw[hg] at h h1
    dsimp only at h h1 ⊢
    rw[←hf d hd,hv] at h
    dsimp only at h
    have hq:=hrd E H1
    cases hc:(z0i P x.o.op).run E H1 with
    | no=>rw[hc] at h; cases h
    | call t args=>rw[hc] at h; cases h
    | val v' H2 =>
     rw[hc,hr] at h
     rw[hc] at hq
     dsimp only at h ⊢
     cases hq
     rw[ziu (eqAV_spec _ _ _) h]
     rfl
  refine z93 hrun hE (fun d' hd' _=>?_)
  rw[hd] at hd'
  cases hd'
  rw[z5r,hv]
def Skip (P:Program) (n:Nat) (ops:Array Oper) (k:z3c) (L:List DOp) (E0 Ef:Tr AV) (x:DOp):Prop:=∀ H2,Spec P n ops k L E0 Ef x H2 H2
noncomputable def aid (Ef:Tr AV) (x:DOp):Nat:=((x.o.dst.bind fun d=>getP (z09 d) Ef).bind idOf).getD 0
def AlAt (P:Program) (n:Nat) (ops:Array Oper) (L:List DOp) (E0 Ef:Tr AV) (x:DOp) (H2:Heap):Prop :=
 ∃ d v0,x.o.dst=some d∧d < n∧getP (z09 d) Ef=some v0∧idOf v0=some (aid Ef x)∧∀ E,z6d ops L E0 Ef x E→(z2w ops x.o).run E=true ∧
  ∃ v' H',(z0i P x.o.op).run E H2=.val v' H'∧v0=reId (aid Ef x) v'∧∃ a b,H2.get (aid Ef x)=some a∧H'.get H2.next=some b∧zcw (eqObj a b) a b=true
theorem z7o {x:DOp} {E E':Tr AV} {H:Heap} (hs:Same (z87 ops x.o) E' E):(z0i P x.o.op).run E' H=(z0i P x.o.op).run E H :=
 zga (Same.opds (fun t ht=>hs t (by simp[z87,ht])))
theorem zuj {x:DOp} (hal:x.c=.al) {E:Tr AV} {H1:Heap} (hE:z6d ops L E0 Ef x E) (hg:(z2w ops x.o).run E=true) {d:Nat} (hd:x.o.dst=some d) (hdn:d < n) {v0:AV} (hv:getP (z09 d) Ef=some v0)
  (hf:getP (z09 d) E=some v0) (h:(z6b P ops x).run E H1=true):AlAt P n ops L E0 Ef x H1:=by
 unfold z6b at h
 rw[hd] at h
 dsimp only at h
 rw[hg,hf] at h
 dsimp only at h
 cases hc:(z0i P x.o.op).run E H1 with
 | no=>rw[hc] at h; cases h
 | call t args=>rw[hc] at h; cases h
 | val v' H2 =>
  rw[hc,hal] at h
  dsimp only at h
  unfold zvh at h
  cases hid:idOf v0 with
  | none=>rw[hid] at h; cases h
  | some id =>
   rw[hid] at h
   dsimp only at h
   have haid:aid Ef x=id:=by unfold aid; rw[hd]; simp[hv,hid]
   cases he:zcw (eqAV 30 v0 (reId id v')) v0 (reId id v') with
   | false=>rw[he] at h; cases h
   | true =>
    rw[he] at h
    dsimp only at h
    cases h1:H1.get id with
    | none=>rw[h1] at h; cases h
    | some a =>
     cases h2:H2.get H1.next with
     | none=>rw[h1,h2] at h; cases h
     | some b =>
      rw[h1,h2] at h
      refine⟨d,v0,hd,hdn,hv,by rw[haid,hid],fun E' hE'=>⟨by rw[z3m (hE.same hE')]; exact hg,v',H2,by rw[z7o (hE.same hE')]; exact hc,by rw[haid]; exact ziu (eqAV_spec _ _ _) he,a,b,by rw[haid]; exact h1,h2,h⟩⟩
theorem al_first (F:Fit P ops L) {x:DOp} (hx:x∈L) (hal:x.c=.al) {E E1:Tr AV} {H H1:Heap} (h:(z0l P n ops x.o).run k E H=.ok E1 H1) (hE:z6d ops L E0 Ef x E) (hE1:z6d ops L E0 Ef x E1)
  (hf:∀ d,x.o.dst=some d→d < n→getP (z09 d) Ef=getP (z09 d) E1) (hre:(z6b P ops x).run E1 H1=true) :
  (Skip P n ops k L E0 Ef x∧H1=H)∨(∃ ob,True∧H1=H.push ob∧zn4 ob∧aid Ef x=H.next∧AlAt P n ops L E0 Ef x H1):=by
 have hmk:=zq6 (P:=P) (o:=x.o) (by rw[←F.ok.cl x hx]; exact hal) E H
 have h0:=h
 unfold z0l at h
 cases hp:putF n x.o.dst with
 | none=>rw[hp] at h; cases h
 | some p =>
  rw[hp] at h
  dsimp only at h
  obtain⟨hput,hlt⟩:=zaa hp
  cases hg:(z2w ops x.o).run E with
  | false =>
   rw[hg] at h
   cases h
   refine .inl ⟨fun H2=>?_,rfl⟩
   refine z93 (E1:=p.run z23 E) ?_ hE hf
   unfold z0l
   rw[hp]
   dsimp only
   rw[hg]
  | true =>
   rw[hg] at h
   dsimp only at h
   cases hr:(z0i P x.o.op).run E H with
   | no=>rw[hr] at h; cases h
   | call t args=>rw[hr] at hmk; exact hmk.elim
   | val v H2 =>
    rw[hr] at h hmk
    cases h
    obtain⟨ob,m1,rfl,m3,m4,_⟩:=hmk
    cases hd:x.o.dst with
    | none =>
     unfold z6b at hre
     rw[hd] at hre
     cases hre
    | some d =>
     have hdn:=hlt d hd
     have hfd:getP (z09 d) (p.run v E)=some v:=by rw[hput,hd,z5r]
     have hv:getP (z09 d) Ef=some v:=by rw[hf d hd hdn,hfd]
     refine .inr ⟨ob,m1,rfl,m4,?_,zuj hal hE1 (by rw[z3m (hE.same hE1)]; exact hg) hd hdn hv hfd hre⟩
     unfold aid
     rw[hd]
     simp[hv,m3]
def zm0 (P:Program) (n:Nat) (ops:Array Oper) (k:z3c) (L:List DOp) (E0 Ef:Tr AV) (x:DOp) (H:Heap):Prop :=
 (x.c=.rd∧Spec P n ops k L E0 Ef x H H)∨(x.c=.al∧(Skip P n ops k L E0 Ef x∨AlAt P n ops L E0 Ef x H))
theorem zne (F:Fit P ops L) {x:DOp} (hx:x∈L) {E:Tr AV} {H H1:Heap} (hE:z6d ops L E0 Ef x E) (hs:zm0 P n ops k L E0 Ef x H) (hf:∀ d,x.o.dst=some d→getP (z09 d) Ef=getP (z09 d) E)
  (h:(z6b P ops x).run E H1=true):zm0 P n ops k L E0 Ef x H1:=by
 rcases hs with ⟨hc,hs⟩ | ⟨hc,hs | hs⟩
 ·exact .inl ⟨hc,znj F hx hc hE hs hf h⟩
 ·exact .inr ⟨hc,.inl hs⟩
 ·obtain⟨d,v0,h1,h2,h3,_,h5⟩:=hs
  exact .inr ⟨hc,.inr (zuj hc hE (h5 E hE).1 h1 h2 h3 (by rw[←hf d h1]; exact h3) h)⟩
def AlPh (P:Program) (n:Nat) (ops:Array Oper) (L:List DOp) (E0 Ef:Tr AV) (ch:List DOp) (Hb Hc:Nat→Heap) (x:DOp) (r:Nat):Prop :=
 r≤ch.length∧(∀ q c,q < r→ch[q]?=some c→bit x.m c.i)∧(Hb r).next≤aid Ef x∧aid Ef x < (Hc r).next ∧
  ∀ p,r≤p→p≤ch.length→(∀ q c,r≤q→q < p→ch[q]?=some c→¬ bit c.m x.i)→AlAt P n ops L E0 Ef x (Hc p)
theorem zo9 (F:Fit P ops L) (hn:n≤lim):∀ (l pend:List DOp) (seen chs s:Nat) (E:Tr AV) (H H':Heap),(z4k P n ops l pend).run k E H=.ok Ef H'→topo l seen chs=some s→(∀ x∈l,x∈L) →
  (∀ x∈pend,x∈L∧isRd x=true∧bit seen x.i∧(∀ d,x.o.dst=some d→d < n)∧zm0 P n ops k L E0 Ef x H)→z9e L E0 Ef (bit seen) E→DC L (bit seen) →
  z9e L E0 Ef (bit s) Ef∧DC L (bit s) ∧
  ∃ (Hb Hc:Nat→Heap) (ph:Nat→Nat),Hb 0=H∧Hc (z07 isCh l).length=H'∧(∀ p,p≤(z07 isCh l).length→Ups (Hb p) (Hc p)) ∧
   (∀ q c,(z07 isCh l)[q]?=some c→Spec P n ops k L E0 Ef c (Hc q) (Hb (q+1))) ∧
   (∀ x∈l,x.c=.rd→∃ r,r≤(z07 isCh l).length∧(∀ q c,q < r→(z07 isCh l)[q]?=some c→bit x.m c.i)∧∀ p,r≤p→p≤(z07 isCh l).length→(∀ q c,r≤q→q < p→(z07 isCh l)[q]?=some c→¬ bit c.m x.i)→Spec P n ops k L E0 Ef x (Hc p) (Hc p)) ∧
   (∀ x∈l,x.c=.quiet→∀ H2,Spec P n ops k L E0 Ef x H2 H2) ∧
   (∀ x∈l,x.c=.al→Skip P n ops k L E0 Ef x∨AlPh P n ops L E0 Ef (z07 isCh l) Hb Hc x (ph x.i)) ∧
   (∀ x∈l,∀ y∈l,x.c=.al→y.c=.al→¬ Skip P n ops k L E0 Ef x→¬ Skip P n ops k L E0 Ef y→ph x.i=ph y.i→aid Ef x=aid Ef y→x=y) ∧
   (∀ x∈pend,∀ p,p≤(z07 isCh l).length→(∀ q c,q < p→(z07 isCh l)[q]?=some c→¬ bit c.m x.i)→zm0 P n ops k L E0 Ef x (Hc p))
 | [],pend,seen,chs,s,E,H,H',h,ht,hl,hp,hE,hD=>by
  cases h
  simp only[topo,Option.some.injEq] at ht
  subst ht
  refine⟨hE,hD,fun _=>H,fun _=>H,fun _=>0,rfl,rfl,fun _ _=>.refl _,fun q c hq=>(by cases hq),fun x hx=>(by cases hx),fun x hx=>(by cases hx),fun x hx=>(by cases hx),fun x hx=>(by cases hx),fun x hx p _ _=>(hp x hx).2.2.2.2⟩
 | x::l,pend,seen,chs,s,E,H,H',h,ht,hl,hp,hE,hD=>by
  obtain⟨E1,H1,pend',h1,h2,h3⟩:=zhk h
  obtain⟨t1,t2,t3⟩:=z88 ht
  have hx:x∈L:=hl x (by simp)
  have hxE:z6d ops L E0 Ef x E:=agree F hD hx t1 (.inl (by unfold bit; rw[t2]; simp)) hE
  have hnew:∀ y∈l,y.i≠x.i:=by
   have key:∀ chs',topo l (Nat.lor (2 ^ x.i) seen) chs'=some s→∀ y∈l,y.i≠x.i:=fun chs' h' y hy e=>by
    have:=topo_new h' y hy
    rw[z1r,z30,e] at this
    simp at this
   rcases t3 with ⟨_,h3⟩ | ⟨_,_,h3⟩ | ⟨_,_,h3⟩ <;> exact key _ h3
  obtain⟨v,s1,s2,s3⟩:=z5k h1
  have hfin:∀ d,x.o.dst=some d→d < n→getP (z09 d) Ef=getP (z09 d) E1:=fun d hd hdn =>
   ze8 hn (Nat.le_trans (Nat.le_of_lt hdn) hn) h2 (fun y hy e=>hnew y hy (by rw[F.dst y (hl y (by simp[hy])) x hx d e hd]))
  have hspec:Spec P n ops k L E0 Ef x H H1:=z93 h1 hxE hfin
  have hS:(bit (Nat.lor (2 ^ x.i) seen))=fun j=>bit seen j∨j=x.i:=by
   funext j
   unfold bit
   rw[z1r,z30]
   simp only[Bool.or_eq_true,decide_eq_true_eq,eq_iff_iff]
   constructor
   ·rintro (e | e)
    ·exact .inr e.symm
    ·exact .inl e
   ·rintro (e | e)
    ·exact .inr e
    ·exact .inl e.symm
  have hE1:z9e L E0 Ef (bit (Nat.lor (2 ^ x.i) seen)) E1:=by
   rw[hS,s1]
   refine hE.put F hn hx (fun d hd=>⟨?_,s2 d hd⟩)
   rw[hfin d hd (s2 d hd),s1,hd,z5r]
  have hD1:DC L (bit (Nat.lor (2 ^ x.i) seen)):=by
   rw[hS]
   rintro y hy (hs | hs) j hj
   ·exact .inl (hD y hy hs j hj)
   ·rw[F.ok.inj y hy x hx hs] at hj
    exact .inl (t1 j hj)
  have hl':∀ y∈l,y∈L:=fun y hy=>hl y (by simp[hy])
  have hbit:bit (Nat.lor (2 ^ x.i) seen) x.i:=by rw[hS]; exact .inr rfl
  have hmono:∀ j,bit seen j→bit (Nat.lor (2 ^ x.i) seen) j:=fun j hj=>by rw[hS]; exact .inl hj
  have hagr:∀ y,y∈L→isRd y=true→bit (Nat.lor (2 ^ x.i) seen) y.i→z6d ops L E0 Ef y E1:=fun y a b c=>agree F hD1 a (fun j hj=>hD1 y a c j hj) (.inr b) hE1
  have hdst:∀ y,y∈L→bit (Nat.lor (2 ^ x.i) seen) y.i→(∀ d,y.o.dst=some d→d < n)→∀ d,y.o.dst=some d→getP (z09 d) Ef=getP (z09 d) E1:=fun y a c hd e he=>by
   rw[hE1 e (Nat.le_trans (Nat.le_of_lt (hd e he)) hn)]
   unfold zhq
   rw[if_pos ⟨y,a,c,he⟩]
  rcases h3 with ⟨hc,rfl⟩ | ⟨hc,rfl⟩ | ⟨hc,rfl,hre⟩ | ⟨hc,hpe,hre⟩
  ·-- quiet
   have ht':topo l (Nat.lor (2 ^ x.i) seen) chs=some s:=by
    rcases t3 with ⟨_,t3⟩ | ⟨e,_⟩ | ⟨e,_⟩
    ·exact t3
    ·rw[hc] at e; rcases e with e | e <;> cases e
    ·rw[hc] at e; cases e
   have hq:z72 (z0i P x.o.op):=zay.1 (by rw[←F.ok.cl x hx]; exact hc)
   have hH:H1=H:=z5j hq.reads h1
   subst hH
   have hf:z07 isCh (x::l)=z07 isCh l:=by simp only[z07]; unfold isCh; rw[hc]
   obtain⟨r0,r00,Hb,Hc,ph,r1,r2,ru,r3,r4,r5,ra,ri,r6⟩:=zo9 F hn l pend' _ chs s E1 H1 H' h2 ht' hl' (fun y hy=>let ⟨a,b,c,d⟩:=hp y hy; ⟨a,b,hmono _ c,d⟩) hE1 hD1
   rw[hf]
   refine⟨r0,r00,Hb,Hc,ph,r1,r2,ru,r3,fun y hy hyc=>?_,fun y hy hyc H2=>?_,fun y hy hyc=>?_,fun y hy z hz hyc hzc=>?_,r6⟩
   ·rcases List.mem_cons.1 hy with rfl | hy
    ·rw[hc] at hyc; cases hyc
    ·exact r4 y hy hyc
   ·rcases List.mem_cons.1 hy with rfl | hy
    ·exact z93 (zhp hq h1 H2) hxE hfin
    ·exact r5 y hy hyc H2
   ·rcases List.mem_cons.1 hy with rfl | hy
    ·rw[hc] at hyc; cases hyc
    ·exact ra y hy hyc
   ·rcases List.mem_cons.1 hy with rfl | hy
    ·rw[hc] at hyc; cases hyc
    ·rcases List.mem_cons.1 hz with rfl | hz
     ·rw[hc] at hzc; cases hzc
     ·exact ri y hy z hz hyc hzc
  ·-- a read
   have ht':topo l (Nat.lor (2 ^ x.i) seen) chs=some s:=by
    rcases t3 with ⟨e,_⟩ | ⟨_,_,t3⟩ | ⟨e,_⟩
    ·rw[hc] at e; cases e
    ·exact t3
    ·rw[hc] at e; cases e
   have hq:zd9 (z0i P x.o.op):=zay.2 (by rw[←F.ok.cl x hx]; exact hc)
   have hH:H1=H:=z5j hq h1
   subst hH
   have hf:z07 isCh (x::l)=z07 isCh l:=by simp only[z07]; unfold isCh; rw[hc]
   obtain⟨r0,r00,Hb,Hc,ph,r1,r2,ru,r3,r4,r5,ra,ri,r6⟩:=zo9 F hn l (x::pend) _ chs s E1 H1 H' h2 ht' hl' (fun y hy=>by
    rcases List.mem_cons.1 hy with rfl | hy
    ·exact⟨hx,by unfold isRd; rw[hc],hbit,s2,.inl ⟨hc,hspec⟩⟩
    ·obtain⟨a,b,c,d⟩:=hp y hy
     exact⟨a,b,hmono _ c,d⟩) hE1 hD1
   rw[hf]
   refine⟨r0,r00,Hb,Hc,ph,r1,r2,ru,r3,fun y hy hyc=>?_,fun y hy hyc H2=>?_,fun y hy hyc=>?_,fun y hy z hz hyc hzc=>?_,fun y hy=>r6 y (by simp[hy])⟩
   ·rcases List.mem_cons.1 hy with rfl | hy
    ·refine⟨0,Nat.zero_le _,fun q c hq=>absurd hq (Nat.not_lt_zero q),fun p _ hp' hno=>?_⟩
     rcases r6 y (by simp) p hp' (fun q c hq=>hno q c (Nat.zero_le q) hq) with ⟨_,h⟩ | ⟨h,_⟩
     ·exact h
     ·rw[hc] at h; cases h
    ·exact r4 y hy hyc
   ·rcases List.mem_cons.1 hy with rfl | hy
    ·rw[hc] at hyc; cases hyc
    ·exact r5 y hy hyc H2
   ·rcases List.mem_cons.1 hy with rfl | hy
    ·rw[hc] at hyc; cases hyc
    ·exact ra y hy hyc
   ·rcases List.mem_cons.1 hy with rfl | hy
    ·rw[hc] at hyc; cases hyc
    ·rcases List.mem_cons.1 hz with rfl | hz
     ·rw[hc] at hzc; cases hzc
     ·exact ri y hy z hz hyc hzc
  ·-- an object is made
   have ht':topo l (Nat.lor (2 ^ x.i) seen) chs=some s:=by
    rcases t3 with ⟨e,_⟩ | ⟨_,_,t3⟩ | ⟨e,_⟩
    ·rw[hc] at e; cases e
    ·exact t3
    ·rw[hc] at e; cases e
   have hrd:isRd x=true:=by unfold isRd; rw[hc]
   have hf:z07 isCh (x::l)=z07 isCh l:=by simp only[z07]; unfold isCh; rw[hc]
   have hal:=al_first F hx hc h1 hxE (hagr x hx hrd hbit) hfin (rechecks_mem hre x (by simp))
   have hxp:zm0 P n ops k L E0 Ef x H1:=by
    rcases hal with ⟨h,_⟩ | ⟨_,_,_,_,_,h⟩
    ·exact .inr ⟨hc,.inl h⟩
    ·exact .inr ⟨hc,.inr h⟩
   obtain⟨r0,r00,Hb,Hc,ph,r1,r2,ru,r3,r4,r5,ra,ri,r6⟩:=zo9 F hn l (x::pend) _ chs s E1 H1 H' h2 ht' hl' (fun y hy=>by
    rcases List.mem_cons.1 hy with rfl | hy'
    ·exact⟨hx,hrd,hbit,s2,hxp⟩
    ·obtain⟨a,b,c,d,e⟩:=hp y hy'
     exact⟨a,b,hmono _ c,d,zne F a (hagr y a b (hmono _ c)) e (hdst y a (hmono _ c) d) (rechecks_mem hre y hy)⟩) hE1 hD1
   rw[hf]
   have hups:Ups H H1:=by
    rcases hal with ⟨_,rfl⟩ | ⟨ob,q1,rfl,q3,_⟩
    ·exact .refl _
    ·exact .push q1 q3 (.refl _)
   have hu0:Ups H1 (Hc 0):=by rw[←r1]; exact ru 0 (Nat.zero_le _)
   have htr:∀ {A B D:Heap},Ups A B→Ups B D→Ups A D:=fun {A B D} h1=>by
    induction h1 with
    | refl=>exact id
    | push a b _ ih=>exact fun h=>.push a b (ih h)
   have hphx:∀ y∈l,(if y.i=x.i then 0 else ph y.i)=ph y.i:=fun y hy=>if_neg (hnew y hy)
   refine⟨r0,r00,fun p=>match p with
    | 0=>H
    | p+1=>Hb (p+1),Hc,fun i=>if i=x.i then 0 else ph i,rfl,r2,fun p hp'=>?_,r3,fun y hy hyc=>?_,fun y hy hyc H2=>?_,fun y hy hyc=>?_,fun y hy z hz hyc hzc hys hzs hph hid=>?_,fun y hy p hp' hno=>?_⟩
   ·cases p with
    | zero=>exact htr hups hu0
    | succ p=>exact ru (p+1) hp'
   ·rcases List.mem_cons.1 hy with rfl | hy
    ·rw[hc] at hyc; cases hyc
    ·exact r4 y hy hyc
   ·rcases List.mem_cons.1 hy with rfl | hy
    ·rw[hc] at hyc; cases hyc
    ·exact r5 y hy hyc H2
   ·rcases List.mem_cons.1 hy with rfl | hy
    ·rcases hal with ⟨h,_⟩ | ⟨ob,q1,q2,q3,q4,q5⟩
     ·exact .inl h
     ·refine .inr ?_
      dsimp only
      rw[if_pos rfl]
      refine⟨Nat.zero_le _,fun q c hq=>absurd hq (Nat.not_lt_zero q),Nat.le_of_eq q4.symm,?_,fun p _ hp' hno=>?_⟩
      ·have:=hu0.next
       rw[q2] at this
       rw[q4]
       exact Nat.lt_of_lt_of_le (Nat.lt_succ_self _) this
      ·rcases r6 y (by simp) p hp' (fun q c hq=>hno q c (Nat.zero_le q) hq) with ⟨h,_⟩ | ⟨_,h | h⟩
       ·rw[hc] at h; cases h
       ·obtain⟨d,v0,g1,g2,g3,g4,g5⟩:=q5
        exfalso
        obtain⟨w1,w2,_⟩:=h H1 E1 (hagr y hx hrd hbit)
        obtain⟨g6,_⟩:=g5 E1 (hagr y hx hrd hbit)
        have hmk:=zq6 (P:=P) (o:=y.o) (by rw[←F.ok.cl y hx]; exact hc) E1 H1
        obtain⟨_,v',H'',g7,_⟩:=g5 E1 (hagr y hx hrd hbit)
        rw[g7] at hmk
        obtain⟨ob',m1,m2,_⟩:=hmk
        unfold z0l at w2
        have hp':putF n y.o.dst=some ⟨fun a E=>setP a (z09 d) E⟩:=by rw[g1]; unfold putF; dsimp only; rw[if_pos g2]
        rw[hp'] at w2
        dsimp only at w2
        rw[g6,g7] at w2
        dsimp only at w2
        injection w2 with _ w2
        rw[m2] at w2
        have:=congrArg Heap.next w2
        simp[Heap.push] at this
       ·exact h
    ·dsimp only
     rw[hphx y hy]
     refine (ra y hy hyc).imp id fun ⟨a1,a2,a3,a4,a5⟩=>⟨a1,a2,?_,a4,a5⟩
     generalize ph y.i=r at a3
     cases r with
     | zero =>
      rw[r1] at a3
      exact Nat.le_trans hups.next a3
     | succ r=>exact a3
   ·dsimp only at hph
    have hlow:∀ u∈l,u.c=.al→¬ Skip P n ops k L E0 Ef u→ph u.i=0→∀ ob,H1=H.push ob→aid Ef u=H.next→False:=fun u hu huc hus hu0 ob he hid'=>by
     rcases ra u hu huc with h | ⟨_,_,a3,_⟩
     ·exact hus h
     ·rw[hu0,r1,he,hid'] at a3
      exact absurd a3 (Nat.not_succ_le_self _)
    rcases List.mem_cons.1 hy with ey | hy1
    ·rcases List.mem_cons.1 hz with ez | hz1
     ·rw[ey,ez]
     ·subst ey
      rw[if_pos rfl,hphx z hz1] at hph
      rcases hal with ⟨h,_⟩ | ⟨ob,q1,q2,q3,q4,q5⟩
      ·exact absurd h hys
      ·exact (hlow z hz1 hzc hzs hph.symm ob q2 (by rw[←hid,q4])).elim
    ·rcases List.mem_cons.1 hz with ez | hz1
     ·subst ez
      rw[if_pos rfl,hphx y hy1] at hph
      rcases hal with ⟨h,_⟩ | ⟨ob,q1,q2,q3,q4,q5⟩
      ·exact absurd h hzs
      ·exact (hlow y hy1 hyc hys hph ob q2 (by rw[hid,q4])).elim
     ·rw[hphx y hy1,hphx z hz1] at hph
      exact ri y hy1 z hz1 hyc hzc hys hzs hph hid
   ·exact r6 y (by simp[hy]) p hp' hno
  ·-- the chain
   obtain⟨tc,ht'⟩:(∀ j,chs.testBit j=true→x.m.testBit j=true)∧topo l (Nat.lor (2 ^ x.i) seen) (Nat.lor (2 ^ x.i) chs)=some s:=by
    rcases t3 with ⟨e,_⟩ | ⟨e,_⟩ | ⟨_,t3⟩
    ·rw[hc] at e; cases e
    ·rw[hc] at e; rcases e with e | e <;> cases e
    ·exact t3
   have hf:z07 isCh (x::l)=x::z07 isCh l:=by simp only[z07]; unfold isCh; rw[hc]
   have hpm:∀ y∈pend',y∈pend∧¬ bit x.m y.i:=fun y hy=>by
    rw[hpe] at hy
    obtain⟨a,b⟩:=z1o.1 hy
    exact⟨a,by unfold bit; simpa using b⟩
   obtain⟨r0,r00,Hb,Hc,ph,r1,r2,ru,r3,r4,r5,ra,ri,r6⟩:=zo9 F hn l pend' _ _ s E1 H1 H' h2 ht' hl' (fun y hy=>by
    obtain⟨a,b,c,d,e⟩:=hp y (hpm y hy).1
    exact⟨a,b,hmono _ c,d,zne F a (hagr y a b (hmono _ c)) e (hdst y a (hmono _ c) d) (rechecks_mem hre y hy)⟩) hE1 hD1
   rw[hf]
   have hbef:∀ y∈l,y.c≠.quiet→∀ r,(∀ q c,q < r→(z07 isCh l)[q]?=some c→bit y.m c.i)→∀ q c,q < r+1→(x::z07 isCh l)[q]?=some c→bit y.m c.i:=fun y hy hyc r u1 q c hq hqc=>by
    cases q with
    | zero =>
     simp only[List.getElem?_cons_zero,Option.some.injEq] at hqc
     subst hqc
     refine topo_chs ht' y hy hyc _ ?_
     rw[z1r,z30]
     simp
    | succ q=>exact u1 q c (by omega) (by simpa using hqc)
   refine⟨r0,r00,fun q=>match q with
    | 0=>H
    | q+1=>Hb q,fun q=>match q with
    | 0=>H
    | q+1=>Hc q,fun i=>ph i+1,rfl,r2,fun p hp'=>?_,fun q c hq=>?_,fun y hy hyc=>?_,fun y hy hyc H2=>?_,fun y hy hyc=>?_,fun y hy z hz hyc hzc hys hzs hph hid=>?_,fun y hy p hp' hno=>?_⟩
   ·cases p with
    | zero=>exact .refl _
    | succ p=>simp only[List.length_cons] at hp'; exact ru p (by omega)
   ·cases q with
    | zero =>
     simp only[List.getElem?_cons_zero,Option.some.injEq] at hq
     subst hq
     dsimp only
     rw[r1]
     exact hspec
    | succ q=>exact r3 q c (by simpa using hq)
   ·rcases List.mem_cons.1 hy with rfl | hy
    ·rw[hc] at hyc; cases hyc
    ·obtain⟨r,u0,u1,u2⟩:=r4 y hy hyc
     refine⟨r+1,by simp only[List.length_cons]; omega,hbef y hy (by rw[hyc]; exact fun e=>by cases e) r u1,fun p hr hp' hno=>?_⟩
     cases p with
     | zero=>omega
     | succ p =>
      simp only[List.length_cons] at hp'
      exact u2 p (by omega) (by omega) (fun q c h5 h6 h7=>hno (q+1) c (by omega) (by omega) (by simpa using h7))
   ·rcases List.mem_cons.1 hy with rfl | hy
    ·rw[hc] at hyc; cases hyc
    ·exact r5 y hy hyc H2
   ·rcases List.mem_cons.1 hy with rfl | hy
    ·rw[hc] at hyc; cases hyc
    ·refine (ra y hy hyc).imp id fun ⟨a1,a2,a3,a4,a5⟩=>⟨by simp only[List.length_cons]; show ph y.i+1≤_; omega,hbef y hy (by rw[hyc]; exact fun e=>by cases e) _ a2,a3,a4,fun p hr hp' hno=>?_⟩
     dsimp only at hr hno
     cases p with
     | zero=>omega
     | succ p =>
      simp only[List.length_cons] at hp'
      exact a5 p (by omega) (by omega) (fun q c h5 h6 h7=>hno (q+1) c (by omega) (by omega) (by simpa using h7))
   ·rcases List.mem_cons.1 hy with rfl | hy
    ·rw[hc] at hyc; cases hyc
    ·rcases List.mem_cons.1 hz with rfl | hz
     ·rw[hc] at hzc; cases hzc
     ·exact ri y hy z hz hyc hzc hys hzs (Nat.succ.inj hph) hid
   ·cases p with
    | zero=>exact (hp y hy).2.2.2.2
    | succ p =>
     simp only[List.length_cons] at hp'
     have h0:=hno 0 x (by omega) (by simp)
     refine r6 y ?_ p (by omega) (fun q c h6 h7=>hno (q+1) c (by omega) (by simpa using h7))
     rw[hpe]
     refine z1o.2 ⟨hy,?_⟩
     unfold bit at h0
     simpa using h0
theorem chain_order:∀ {l:List DOp} {seen chs s:Nat},topo l seen chs=some s→∀ (q q':Nat) (c c':DOp),q < q'→(z07 isCh l)[q]?=some c→(z07 isCh l)[q']?=some c'→bit c'.m c.i
 | [],_,_,_,_,q,q',c,c',_,h,_=>by simp[z07] at h
 | x::l,seen,chs,s,ht,q,q',c,c',hlt,h,h'=>by
  obtain⟨_,_,t3⟩:=z88 ht
  rcases t3 with ⟨hc,t⟩ | ⟨hc,_,t⟩ | ⟨hc,_,t⟩
  ·have hf:z07 isCh (x::l)=z07 isCh l:=by simp only[z07]; unfold isCh; rw[hc]
   rw[hf] at h h'
   exact chain_order t q q' c c' hlt h h'
  ·have hf:z07 isCh (x::l)=z07 isCh l:=by simp only[z07]; unfold isCh; rcases hc with hc | hc <;> rw[hc]
   rw[hf] at h h'
   exact chain_order t q q' c c' hlt h h'
  ·have hf:z07 isCh (x::l)=x::z07 isCh l:=by simp only[z07]; unfold isCh; rw[hc]
   rw[hf] at h h'
   cases q' with
   | zero=>omega
   | succ q' =>
    simp only[List.getElem?_cons_succ] at h'
    cases q with
    | zero =>
     simp only[List.getElem?_cons_zero,Option.some.injEq] at h
     subst h
     obtain⟨hm,hch⟩:=z1o.1 (List.mem_iff_getElem?.2 ⟨_,h'⟩)
     refine topo_chs t c' hm (by rw[zch.1 hch]; exact fun e=>by cases e) _ ?_
     rw[z1r,z30]
     simp
    | succ q=>exact chain_order t q q' c c' (by omega) (by simpa using h) h'
end zo9
end Go.Sv
namespace Go.Sv
section sched
variable {P : Program} {n : Nat} {ops : Array Oper} {k : z3c} {L : List DOp} {E0 Ef : Tr AV}
theorem zih {S:Nat→Prop}:∀ {l:List DOp} {seen chs s:Nat},topo l seen chs=some s→(∀ j,bit seen j→S j)→(∀ x∈l,S x.i)∨∃ x∈l,¬ S x.i∧∀ j,bit x.m j→S j
 | [],_,_,_,_,_=>.inl fun x hx=>by cases hx
 | x::l,seen,chs,s,h,hs=>by
  obtain⟨t1,t2,t3⟩:=z88 h
  by_cases hx:S x.i
  ·have key:∀ chs',topo l (Nat.lor (2 ^ x.i) seen) chs'=some s→(∀ y∈x::l,S y.i)∨∃ y∈x::l,¬ S y.i∧∀ j,bit y.m j→S j:=fun chs' h'=>by
    rcases zih h' (S:=S) (fun j hj=>by
     unfold bit at hj
     rw[z1r,z30] at hj
     simp only[Bool.or_eq_true,decide_eq_true_eq] at hj
     rcases hj with rfl | hj
     ·exact hx
     ·exact hs j hj) with q | ⟨y,hy,q⟩
    ·exact .inl fun y hy=>by
      rcases List.mem_cons.1 hy with rfl | hy
      ·exact hx
      ·exact q y hy
    ·exact .inr ⟨y,by simp[hy],q⟩
   rcases t3 with ⟨_,t3⟩ | ⟨_,_,t3⟩ | ⟨_,_,t3⟩ <;> exact key _ t3
  ·exact .inr ⟨x,by simp,hx,fun j hj=>hs j (t1 j hj)⟩
def Done (listed:Array Bool) (i:Nat):Prop:=listed.getD i false=true
theorem done_set {listed:Array Bool} {i:Nat} (hi:i < listed.size) (j:Nat):Done (listed.setIfInBounds i true) j↔(Done listed j∨j=i):=by
 unfold Done
 rw[Array.getD_eq_getD_getElem?,Array.getElem?_setIfInBounds,Array.getD_eq_getD_getElem?]
 by_cases e:i=j
 ·subst e; simp[hi]
 ·have:¬ j=i:=fun q=>e q.symm
  simp[e,this]
theorem zli {listed:Array Bool} {i:Nat} (hs:listed.size=ops.size):i∈Region.ready .any ops listed↔i < ops.size∧¬ Done listed i∧∃ o,ops[i]?=some o∧∀ e∈o.after.toList,Region.binds .any e=true→Done listed e.on:=by
 unfold Region.ready Done
 simp only[List.mem_filter,List.mem_range,Bool.and_eq_true,Bool.not_eq_true']
 constructor
 ·rintro⟨h1,h2,h3⟩
  refine⟨h1,?_,?_⟩
  ·rw[Array.getD_eq_getD_getElem?,Array.getElem?_eq_getElem (by omega)] at h2 ⊢
   simpa using h2
  ·rw[Array.getElem?_eq_getElem h1] at h3
   simp only[Option.map_some,Option.getD_some] at h3
   refine⟨ops[i],Array.getElem?_eq_getElem h1,fun e he hb=>?_⟩
   have:=Array.all_eq_true_iff_forall_mem.1 h3 e (by simpa using he)
   rw[hb] at this
   simpa using this
 ·rintro⟨h1,h2,o,h3,h4⟩
  refine⟨h1,?_,?_⟩
  ·rw[Array.getD_eq_getD_getElem?,Array.getElem?_eq_getElem (by omega)] at h2 ⊢
   simpa using h2
  ·rw[h3]
   simp only[Option.map_some,Option.getD_some]
   refine Array.all_eq_true_iff_forall_mem.2 fun e he=>?_
   cases hb:Region.binds .any e with
   | false=>rfl
   | true=>simpa using h4 e (by simpa using he) hb
theorem ztv {C C1:CM} (h:C.le C1) {o:Nat} (hn:∀ v,C o v=none) (ho:o < C.nx) (v:Nat):C1 o v=none:=by
 cases e:C1 o v with
 | none=>rfl
 | some L =>
  rcases h.new _ _ _ e with ⟨v',L',e'⟩ | e'
  ·rw[hn] at e'; cases e'
  ·omega
structure Pends (P:Program) (n:Nat) (ops:Array Oper) (k:z3c) (L:List DOp) (E0 Ef:Tr AV) (ord:List DOp) (ph:Nat→Nat) (C0 C:CM) (Hp:Heap) (D:Nat→Prop) (p:Nat):Prop where
 known:∀ x∈ord,x.c=.al→¬ Skip P n ops k L E0 Ef x→ph x.i≤p→C0.nx≤aid Ef x∧aid Ef x < Hp.next
 inj:∀ x∈ord,∀ y∈ord,x.c=.al→y.c=.al→¬ Skip P n ops k L E0 Ef x→¬ Skip P n ops k L E0 Ef y→ph x.i≤p→ph y.i≤p→aid Ef x=aid Ef y→x=y
 pend:∀ x∈ord,x.c=.al→¬ Skip P n ops k L E0 Ef x→ph x.i≤p→¬ D x.i→∀ v,C (aid Ef x) v=none
theorem oper_al (F:Fit P ops L) {x:DOp} (hx:x∈L) (hal:x.c=.al) (ho:ops[x.i]?=some x.o) {w0:World} {C:CM} {H:Heap} {w:World} {E:Tr AV} {a:Act} (hR:Rel w0 C H w) (hE:ER n C E a.tmps)
  (hxE:z6d ops L E0 Ef x E) (hat:AlAt P n ops L E0 Ef x H) (hid:aid Ef x < H.next) (hn:∀ v,C (aid Ef x) v=none) (b:Frame) (rest:List Nat) (kk:List Item) (cs:List Frame) :
  ∃ (Lc:Loc) (w':World) (xv:Value) (v:AV),Rel w0 (C.ext (aid Ef x) 0 Lc) H w'∧C.keep (C.ext (aid Ef x) 0 Lc)∧VR (C.ext (aid Ef x) 0 Lc) v xv∧(∀ d,x.o.dst=some d→getP (z09 d) Ef=some v∧d < n) ∧
   Steps P (lone (b.atR a (.inRegion ops (x.i::rest)::kk)) cs w) (lone (b.atR (a.put x.o.dst xv) (.inRegion ops rest::kk)) cs w'):=by
 obtain⟨d,v0,g1,g2,g3,g4,g5⟩:=hat
 obtain⟨hg,v',H',h1,h2,oa,ob',h3,h4,h5⟩:=g5 E hxE
 have hmk:=zq6 (P:=P) (o:=x.o) (by rw[←F.ok.cl x hx]; exact hal) E H
 rw[h1] at hmk
 obtain⟨ob,m1,rfl,m3,m4,m5⟩:=hmk
 rw[Heap.get_push_same] at h4
 cases h4
 obtain⟨blk,n',sz,xv,q1,q2⟩:=m5 C w a.eval (z8j hE)
 have hk:C.keep (C.ext (aid Ef x) 0 ⟨w.heap.size,0,n',sz⟩):=fun o' v' L' h'=>by
  by_cases e:o'=aid Ef x∧v'=0
  ·obtain⟨rfl,rfl⟩:=e; rw[hn] at h'; cases h'
  ·rw[CM.ext_ne C _ e]; exact h'
 obtain⟨q3,q4⟩:=q2 _ (aid Ef x) hk (CM.ext_same _ _ _ _)
 obtain⟨q5,_⟩:=hR.bind hid hn h3 blk ((q4 _ hR.low.size).same h5)
 have hw:Region.wanted x.o (yielded ops a.tmps)=true:=by rw[←zh4 hE ops x.o]; exact hg
 have hnd:=zgn (P:=P) (o:=x.o) (E:=E) (H:=H) (by rw[h1]; intro e; cases e)
 refine⟨_,_,xv,v0,q5,hk,by rw[h2]; exact q3,fun d' hd'=>?_,.one (zqg ho hw hnd q1)⟩
 rw[g1] at hd'
 cases hd'
 exact⟨g3,g2⟩
theorem sched (hk:z3j P k) (F:Fit P ops L) (hn:n≤lim) {ord:List DOp} {s:Nat} (hto:topo ord 0 0=some s) (hord:∀ x∈ord,x∈L) (hall:∀ i,i < ops.size→bit s i) (hEf:z9e L E0 Ef (bit s) Ef)
  {Hb Hc:Nat→Heap} {ph:Nat→Nat} (hU:∀ p,p≤(z07 isCh ord).length→Ups (Hb p) (Hc p))
  (hA:∀ q c,(z07 isCh ord)[q]?=some c→Spec P n ops k L E0 Ef c (Hc q) (Hb (q+1)))
  (hB:∀ x∈ord,x.c=.rd→∃ r,r≤(z07 isCh ord).length∧(∀ q c,q < r→(z07 isCh ord)[q]?=some c→bit x.m c.i)∧∀ p,r≤p→p≤(z07 isCh ord).length→(∀ q c,r≤q→q < p→(z07 isCh ord)[q]?=some c→¬ bit c.m x.i)→Spec P n ops k L E0 Ef x (Hc p) (Hc p))
  (hB':∀ x∈ord,x.c=.quiet→∀ H2,Spec P n ops k L E0 Ef x H2 H2)
  (hL:∀ x∈ord,x.c=.al→Skip P n ops k L E0 Ef x∨AlPh P n ops L E0 Ef (z07 isCh ord) Hb Hc x (ph x.i))
  (hI:∀ x∈ord,∀ y∈ord,x.c=.al→y.c=.al→¬ Skip P n ops k L E0 Ef x→¬ Skip P n ops k L E0 Ef y→ph x.i=ph y.i→aid Ef x=aid Ef y→x=y)
  {w0:World} {C0:CM} (b:Frame) (kk:List Item) (cs:List Frame) :
  ∀ (fuel t:Nat) (listed:Array Bool) (T:List Nat) (p:Nat) (C:CM) (w:World) (a:Act) (E:Tr AV),listed.size=ops.size→T.length≤fuel→(∀ i,i < ops.size→¬ Done listed i→i∈T) →
   z9e L E0 Ef (Done listed) E→DC L (Done listed)→Rel w0 C (Hc p) w→ER n C E a.tmps→(∀ q c,(z07 isCh ord)[q]?=some c→(Done listed c.i↔q < p))→p≤(z07 isCh ord).length →
   C0.le C→Pends P n ops k L E0 Ef ord ph C0 C (Hc p) (Done listed) p →
   ∃ C' w' a',C0.le C'∧Rel w0 C' (Hc (z07 isCh ord).length) w'∧ER n C' Ef a'.tmps∧a'.defers=a.defers ∧
    Steps P (lone (b.atR a (.inRegion ops (Region.linearise.go .any ops fuel t listed [])::kk)) cs w) (lone (b.atR a' (.inRegion ops []::kk)) cs w'):=by
 have hin:∀ x∈L,x∈ord:=fun x hx=>by
  rcases (topo_seen hto x.i).1 (hall x.i (F.ok.op x hx).2) with h | ⟨y,hy,e⟩
  ·simp at h
  ·rwa [←F.ok.inj y (hord y hy) x hx e]
 have hend:∀ (listed:Array Bool) (p:Nat) (C:CM) (w:World) (a:Act) (E:Tr AV),(∀ i,i < ops.size→Done listed i)→z9e L E0 Ef (Done listed) E→Rel w0 C (Hc p) w→ER n C E a.tmps →
   (∀ q c,(z07 isCh ord)[q]?=some c→(Done listed c.i↔q < p))→p≤(z07 isCh ord).length→C0.le C →
   ∃ C' w' a',C0.le C'∧Rel w0 C' (Hc (z07 isCh ord).length) w'∧ER n C' Ef a'.tmps∧a'.defers=a.defers ∧
    Steps P (lone (b.atR a (.inRegion ops []::kk)) cs w) (lone (b.atR a' (.inRegion ops []::kk)) cs w'):=by
  intro listed p C w a E hd hE hR hER hch hp hC0
  have hpl:p=(z07 isCh ord).length:=by
   rcases Nat.lt_or_ge p (z07 isCh ord).length with h | h
   ·have hm:=List.getElem_mem h
    have:=(hch p _ (List.getElem?_eq_getElem h)).1 (hd _ (F.ok.op _ (hord _ (z1o.1 hm).1)).2)
    omega
   ·omega
  subst hpl
  refine⟨C,w,a,hC0,hR,⟨hER.1,hER.2.1,fun t ht=>?_⟩,rfl,.refl _ _⟩
  have e:getP (z09 t) Ef=getP (z09 t) E:=by
   rw[hE t ht,hEf t ht]
   unfold zhq
   have:InS L (bit s) t↔InS L (Done listed) t:=by
    constructor
    ·rintro⟨y,hy,_,h⟩; exact⟨y,hy,hd _ (F.ok.op y hy).2,h⟩
    ·rintro⟨y,hy,_,h⟩; exact⟨y,hy,hall _ (F.ok.op y hy).2,h⟩
   by_cases q:InS L (bit s) t
   ·rw[if_pos q,if_pos (this.1 q)]
   ·rw[if_neg q,if_neg (fun z=>q (this.2 z))]
  rw[e]
  exact hER.2.2 t ht
 intro fuel
 induction fuel with
 | zero =>
  intro t listed T p C w a E hs hT hTm hE hD hR hER hch hp hC0 hPe
  have hd:∀ i,i < ops.size→Done listed i:=fun i hi=>by
   by_cases h:Done listed i
   ·exact h
   ·have:=hTm i hi h
    have hT0:T=[]:=List.eq_nil_of_length_eq_zero (by omega)
    rw[hT0] at this
    cases this
  exact hend listed p C w a E hd hE hR hER hch hp hC0
 | succ fuel ih =>
  intro t listed T p C w a E hs hT hTm hE hD hR hER hch hp hC0 hPe
  simp only[Region.linearise.go]
  change ∃ C' w' a',C0.le C'∧Rel w0 C' (Hc (z07 isCh ord).length) w'∧ER n C' Ef a'.tmps∧a'.defers=a.defers ∧
   Steps P (lone (b.atR a (.inRegion ops (match (Region.ready .any ops listed)[t % (Region.ready .any ops listed).length]? with
    | some i=>Region.linearise.go .any ops fuel (t / (Region.ready .any ops listed).length) (listed.setIfInBounds i true) [i]
    | none=>[].reverse)::kk)) cs w) (lone (b.atR a' (.inRegion ops []::kk)) cs w')
  cases hi:(Region.ready .any ops listed)[t % (Region.ready .any ops listed).length]? with
  | none =>
   have hnil:Region.ready .any ops listed=[]:=by
    cases hr:Region.ready .any ops listed with
    | nil=>rfl
    | cons x xs =>
     rw[hr] at hi
     have hlt:t % (x::xs).length < (x::xs).length:=Nat.mod_lt _ (by simp)
     rw[List.getElem?_eq_getElem hlt] at hi
     cases hi
   have hd:∀ i,i < ops.size→Done listed i:=by
    rcases zih hto (S:=Done listed) (fun j hj=>by simp[bit] at hj) with h | ⟨x,hx,h1,h2⟩
    ·intro i hi
     obtain⟨x,hx,rfl⟩:=F.ok.all i hi
     exact h x (hin x hx)
    ·have hxL:=hord x hx
     obtain⟨ho,hlt⟩:=F.ok.op x hxL
     have:x.i∈Region.ready .any ops listed:=(zli hs).2 ⟨hlt,h1,x.o,ho,fun e he hb=>h2 _ (F.ok.edge x hxL e he hb)⟩
     rw[hnil] at this
     cases this
   exact hend listed p C w a E hd hE hR hER hch hp hC0
  | some i =>
   dsimp only
   rw[linearise_go_acc,List.reverse_singleton,List.singleton_append]
   obtain⟨hlt,hnd,o,ho,hdeps⟩:=(zli hs).1 (List.mem_of_getElem? hi)
   obtain⟨x,hx,rfl⟩:=F.ok.all i hlt
   have hox:=(F.ok.op x hx).1
   rw[ho] at hox
   cases hox
   have hmask:∀ j,bit x.m j→Done listed j:=fun j hj=>by
    obtain⟨e,he,hb,rfl | ⟨y,hy,e1,e2⟩⟩:=F.ok.msk x hx j hj
    ·exact hdeps e he hb
    ·exact hD y hy (by rw[e1]; exact hdeps e he hb) j e2
   have hxE:z6d ops L E0 Ef x E:=agree F hD hx hmask (.inl hnd) hE
   have hxo:=hin x hx
   have hstep:∃ p' C1 w1 xv v,C0.le C1∧Rel w0 C1 (Hc p') w1∧ER n C1 (putE x.o.dst v E) (a.put x.o.dst xv).tmps∧(∀ d,x.o.dst=some d→getP (z09 d) Ef=some v∧d < n) ∧
     Steps P (lone (b.atR a (.inRegion ops (x.i::Region.linearise.go .any ops fuel (t / (Region.ready .any ops listed).length) (listed.setIfInBounds x.i true) [])::kk)) cs w)
      (lone (b.atR (a.put x.o.dst xv) (.inRegion ops (Region.linearise.go .any ops fuel (t / (Region.ready .any ops listed).length) (listed.setIfInBounds x.i true) [])::kk)) cs w1) ∧
     p'≤(z07 isCh ord).length∧(∀ q c,(z07 isCh ord)[q]?=some c→((Done listed c.i∨c.i=x.i)↔q < p')) ∧
     Pends P n ops k L E0 Ef ord ph C0 C1 (Hc p') (fun j=>Done listed j∨j=x.i) p':=by
    have hsame:x.c≠.ch→∀ q c,(z07 isCh ord)[q]?=some c→((Done listed c.i∨c.i=x.i)↔q < p):=fun hne q c hq=>by
     rw[←hch q c hq]
     constructor
     ·rintro (h | h)
      ·exact h
      ·obtain⟨hm,hc⟩:=z1o.1 (List.mem_iff_getElem?.2 ⟨_,hq⟩)
       rw[F.ok.inj c (hord c hm) x hx h] at hc
       exact absurd (zch.1 hc) hne
     ·exact .inl
    have hahead:∀ r,r≤(z07 isCh ord).length→(∀ q c,q < r→(z07 isCh ord)[q]?=some c→bit x.m c.i)→r≤p:=fun r u0 u1=>by
     rcases Nat.lt_or_ge p r with h | h
     ·have hpl:p < (z07 isCh ord).length:=by omega
      have:=(hch p _ (List.getElem?_eq_getElem hpl)).1 (hmask _ (u1 p _ h (List.getElem?_eq_getElem hpl)))
      omega
     ·exact h
    have hnone:∀ r q c,r≤q→q < p→(z07 isCh ord)[q]?=some c→¬ bit c.m x.i:=fun r q c _ hq hqc hb=>by
     have hm:=(z1o.1 (List.mem_iff_getElem?.2 ⟨_,hqc⟩)).1
     exact hnd (hD c (hord c hm) ((hch q c hqc).2 hq) _ hb)
    have hstay:=fun (hne:x.c≠.ch) (hsp:Spec P n ops k L E0 Ef x (Hc p) (Hc p))=>show ∃ p' C1 w1 xv v,C0.le C1∧Rel w0 C1 (Hc p') w1∧ER n C1 (putE x.o.dst v E) (a.put x.o.dst xv).tmps∧(∀ d,x.o.dst=some d→getP (z09 d) Ef=some v∧d < n) ∧
     Steps P (lone (b.atR a (.inRegion ops (x.i::Region.linearise.go .any ops fuel (t / (Region.ready .any ops listed).length) (listed.setIfInBounds x.i true) [])::kk)) cs w)
      (lone (b.atR (a.put x.o.dst xv) (.inRegion ops (Region.linearise.go .any ops fuel (t / (Region.ready .any ops listed).length) (listed.setIfInBounds x.i true) [])::kk)) cs w1) ∧
     p'≤(z07 isCh ord).length∧(∀ q c,(z07 isCh ord)[q]?=some c→((Done listed c.i∨c.i=x.i)↔q < p')) ∧
     Pends P n ops k L E0 Ef ord ph C0 C1 (Hc p') (fun j=>Done listed j∨j=x.i) p' from by
     obtain⟨v,hrun,hfin⟩:=hsp E hxE
     obtain⟨C1,w1,xv,av,q1,q2,q3,q4,q5,q6⟩:=zgv hk ho hR hER hrun b (Region.linearise.go .any ops fuel (t / (Region.ready .any ops listed).length) (listed.setIfInBounds x.i true) []) kk cs
     refine⟨p,C1,w1,xv,v,CM.le_trans hC0 q1,q2,by rw[q4]; exact (hER.mono q1).put q5 q3,hfin,q6,hp,hsame hne,⟨hPe.known,hPe.inj,fun y hy hyc hys hyp hyd v=>?_⟩⟩
     exact ztv q1 (hPe.pend y hy hyc hys hyp (fun h=>hyd (.inl h))) (by rw[hR.nx]; exact (hPe.known y hy hyc hys hyp).2) v
    cases hc:x.c with
    | quiet=>exact hstay (by rw[hc]; exact fun e=>by cases e) (hB' x hxo hc _)
    | rd =>
     obtain⟨r,u0,u1,u2⟩:=hB x hxo hc
     exact hstay (by rw[hc]; exact fun e=>by cases e) (u2 p (hahead r u0 u1) hp (hnone r))
    | al =>
     by_cases hsk:Skip P n ops k L E0 Ef x
     ·exact hstay (by rw[hc]; exact fun e=>by cases e) (hsk _)
     ·rcases hL x hxo hc with h | ⟨u0,u1,u2,u3,u4⟩
      ·exact absurd h hsk
      ·have hrp:=hahead _ u0 u1
       have hat:=u4 p hrp hp (hnone _)
       obtain⟨k1,k2⟩:=hPe.known x hxo hc hsk hrp
       have hunb:=hPe.pend x hxo hc hsk hrp hnd
       obtain⟨Lc,w1,xv,v,q1,q2,q3,q4,q5⟩:=oper_al F hx hc ho hR hER hxE hat k2 hunb b (Region.linearise.go .any ops fuel (t / (Region.ready .any ops listed).length) (listed.setIfInBounds x.i true) []) kk cs
       refine⟨p,_,w1,xv,v,⟨fun o v L h=>q2 _ _ _ (hC0.keep _ _ _ h),Nat.le_trans hC0.nx (Nat.le_max_left _ _),fun o v L h=>?_⟩,q1,(hER.mono' q2).put (fun t ht=>(q4 t ht).2) q3,q4,q5,hp,hsame (by rw[hc]; exact fun e=>by cases e),
        ⟨hPe.known,hPe.inj,fun y hy hyc hys hyp hyd v=>?_⟩⟩
       ·by_cases e:o=aid Ef x∧v=0
        ·obtain⟨rfl,rfl⟩:=e; exact .inr k1
        ·rw[CM.ext_ne _ _ e] at h; exact hC0.new _ _ _ h
       ·have hne:aid Ef y≠aid Ef x:=fun e=>hyd (.inr (by rw[hPe.inj y hy x hxo hyc hc hys hsk hyp hrp e]))
        rw[CM.ext_ne _ _ (fun e=>hne e.1)]
        exact hPe.pend y hy hyc hys hyp (fun h=>hyd (.inl h)) v
    | ch =>
     obtain⟨q,hq⟩:=List.mem_iff_getElem?.1 (z1o.2 ⟨hxo,zch.2 hc⟩)
     have hq1:¬ q < p:=fun h=>hnd ((hch q x hq).2 h)
     have hql:=(List.getElem?_eq_some_iff.1 hq).1
     have hqp:q=p:=by
      rcases Nat.lt_or_ge p q with h | h
      ·have hpl:p < (z07 isCh ord).length:=by omega
       have:=(hch p _ (List.getElem?_eq_getElem hpl)).1 (hmask _ (chain_order hto p q _ x h (List.getElem?_eq_getElem hpl) hq))
       omega
      ·omega
     subst hqp
     obtain⟨v,hrun,hfin⟩:=hA q x hq E hxE
     obtain⟨C1,w1,xv,av,q1,q2,q3,q4,q5,q6⟩:=zgv hk ho hR hER hrun b (Region.linearise.go .any ops fuel (t / (Region.ready .any ops listed).length) (listed.setIfInBounds x.i true) []) kk cs
     have hups:=hU (q+1) (by omega)
     have hle:C1.le (C1.lift (Hc (q+1)).next):=CM.le_lift (by rw[q2.nx]; exact hups.next)
     have hnx:(Hc q).next≤(Hb (q+1)).next:=by rw[←hR.nx,←q2.nx]; exact q1.nx
     have hnew:∀ y∈ord,y.c=.al→¬ Skip P n ops k L E0 Ef y→ph y.i=q+1→(Hb (q+1)).next≤aid Ef y∧aid Ef y < (Hc (q+1)).next:=fun y hy hyc hys hyp=>by
      rcases hL y hy hyc with h | ⟨_,_,u2,u3,_⟩
      ·exact absurd h hys
      ·rw[hyp] at u2 u3; exact⟨u2,u3⟩
     have hun:=hups.next
     refine⟨q+1,C1.lift (Hc (q+1)).next,w1,xv,v,CM.le_trans hC0 (CM.le_trans q1 hle),q2.ups hups,by rw[q4]; exact ((hER.mono q1).put q5 q3).mono hle,hfin,q6,by omega,fun q' c hq'=>?_,⟨fun y hy hyc hys hyp=>?_,fun y hy z hz hyc hzc hys hzs hyp hzp hid=>?_,fun y hy hyc hys hyp hyd v=>?_⟩⟩
     ·rw[hch q' c hq']
      constructor
      ·rintro (h | h)
       ·omega
       ·have hm:=(z1o.1 (List.mem_iff_getElem?.2 ⟨_,hq'⟩)).1
        have e:=F.ok.inj c (hord c hm) x hx h
        subst e
        rcases Nat.lt_trichotomy q' q with h' | h' | h'
        ·omega
        ·omega
        ·exact absurd (hmask _ (chain_order hto q q' c c h' hq hq')) hnd
      ·intro h
       rcases Nat.lt_or_ge q' q with h' | h'
       ·exact .inl h'
       ·have:q'=q:=by omega
        subst this
        rw[hq] at hq'
        cases hq'
        exact .inr rfl
     ·rcases Nat.lt_or_ge (ph y.i) (q+1) with h | h
      ·obtain⟨k1,k2⟩:=hPe.known y hy hyc hys (by omega)
       exact⟨k1,by omega⟩
      ·obtain⟨k1,k2⟩:=hnew y hy hyc hys (by omega)
       have:=(CM.le_trans hC0 q1).nx
       rw[q2.nx] at this
       exact⟨Nat.le_trans this k1,k2⟩
     ·rcases Nat.lt_or_ge (ph y.i) (q+1) with h | h <;> rcases Nat.lt_or_ge (ph z.i) (q+1) with h' | h'
      ·exact hPe.inj y hy z hz hyc hzc hys hzs (by omega) (by omega) hid
      ·have k1:=(hPe.known y hy hyc hys (by omega)).2
       have k2:=(hnew z hz hzc hzs (by omega)).1
       omega
      ·have k1:=(hPe.known z hz hzc hzs (by omega)).2
       have k2:=(hnew y hy hyc hys (by omega)).1
       omega
      ·exact hI y hy z hz hyc hzc hys hzs (by omega) hid
     ·show C1.f (aid Ef y) v=none
      rcases Nat.lt_or_ge (ph y.i) (q+1) with h | h
      ·exact ztv q1 (hPe.pend y hy hyc hys (by omega) (fun h=>hyd (.inl h))) (by rw[hR.nx]; exact (hPe.known y hy hyc hys (by omega)).2) v
      ·have k1:=(hnew y hy hyc hys (by omega)).1
       cases e:C1.f (aid Ef y) v with
       | none=>rfl
       | some L'=>have:=q2.fresh _ _ _ e; omega
   obtain⟨p',C1,w1,xv,v,q1,q2,hER1,hfin,q6,hp',hch',hPe'⟩:=hstep
   have hset:=done_set (listed:=listed) (i:=x.i) (by omega)
   have hseq:Done (listed.setIfInBounds x.i true)=fun j=>Done listed j∨j=x.i:=funext fun j=>propext (hset j)
   have hE1:z9e L E0 Ef (Done (listed.setIfInBounds x.i true)) (putE x.o.dst v E):=by
    have:=hE.put F hn hx hfin
    rw[hseq]
    exact this
   obtain⟨C2,w2,a2,r1,r2,r3,r4,r5⟩:=ih (t / (Region.ready .any ops listed).length) (listed.setIfInBounds x.i true) (T.erase x.i) p' C1 w1 (a.put x.o.dst xv) (putE x.o.dst v E) (by simpa using hs)
    (by
     have:=List.length_erase_of_mem (hTm x.i hlt hnd)
     omega)
    (fun j hj hjd=>by
     rw[hset] at hjd
     have h1:¬ Done listed j:=fun h=>hjd (.inl h)
     have h2:j≠x.i:=fun h=>hjd (.inr h)
     exact (List.mem_erase_of_ne h2).2 (hTm j hj h1))
    hE1
    (fun y hy hd j hj=>by
     rw[hset] at hd ⊢
     rcases hd with hd | hd
     ·exact .inl (hD y hy hd j hj)
     ·rw[F.ok.inj y hy x hx hd] at hj
      exact .inl (hmask j hj))
    q2 hER1 (fun q c hq=>by rw[hset]; exact hch' q c hq) hp' q1 (by rw[hseq]; exact hPe')
   refine⟨C2,w2,a2,r1,r2,r3,?_,Steps.trans q6 r5⟩
   rw[r4]
   cases x.o.dst <;> rfl
theorem zr2 (hm:P.follows .mixedOrders=true) (hk:z3j P k) {w0:World} {C:CM} {H H':Heap} {w:World} {E E':Tr AV} {a:Act} {id:Nat} (hR:Rel w0 C H w) (hE:ER n C E a.tmps)
  (h:(z8u P n ops).run k E H=.ok E' H') (b:Frame) (kk:List Item) (cs:List Frame) :
  ∃ C' w' a',C.le C'∧Rel w0 C' H' w'∧ER n C' E' a'.tmps∧a'.defers=a.defers ∧
   Steps P (lone (b.atR a (.code (.region id ops true)::kk)) cs w) (lone (b.atR a' kk) cs w'):=by
 unfold z8u at h
 dsimp only at h
 generalize hL:dops P ops ops.toList [] 0=L at h
 have hok:LOk P ops L:=hL ▸ dops_ok P ops
 generalize hO:zvo L (z07 isCh L)=ord at h
 have hord:∀ x∈ord,x∈L:=fun x hx=>zww x (by rw[hO]; exact hx)
 split at h
 ·rename_i hd
  unfold zu3 at hd
  split at hd
  ·cases hd
  ·rename_i s hto
   split at hd
   ·cases hd
   ·rename_i hs
    split at hd
    ·cases hd
    ·rename_i hds
     have hse:s=2 ^ ops.size - 1:=Nat.eq_of_beq_eq_true (by simpa using hs)
     have F:Fit P ops L:=⟨hok,(dstsOk_spec (by simpa using hds)).2,fun x hx y hy=>zj7 (zj7 hd x hx) y hy⟩
     have hn:=hE.2.1
     have h0:z9e L E E' (bit 0) E:=fun t ht=>by
      unfold zhq
      rw[if_neg]
      rintro⟨y,_,hy,_⟩
      simp[bit] at hy
     obtain⟨r0,_,Hb,Hc,ph,r1,r2,ru,r3,r4,r5,ra,ri,_⟩:=zo9 (E0:=E) F hn ord [] 0 0 s E H H' h hto hord (fun x hx=>by cases hx) h0 (fun y _ hy=>by simp[bit] at hy)
     have hall:∀ i,i < ops.size→bit s i:=fun i hi=>by
      unfold bit
      rw[hse,Nat.testBit_two_pow_sub_one]
      simpa using hi
     have hnot:∀ i,¬ Done (Array.replicate ops.size false) i:=fun i hi=>by
      unfold Done at hi
      rw[Array.getD_eq_getD_getElem?,Array.getElem?_replicate] at hi
      split at hi <;> cases hi
     have hu0:=ru 0 (Nat.zero_le _)
     rw[r1] at hu0
     have hR1:Rel w0 (C.lift (Hc 0).next) (Hc 0) w.drew:=hR.drew.ups hu0
     have hle0:C.le (C.lift (Hc 0).next):=CM.le_lift (by rw[hR.nx]; exact hu0.next)
     have hlow0:∀ y∈ord,y.c=.al→¬ Skip P n ops k L E E' y→ph y.i=0→H.next≤aid E' y∧aid E' y < (Hc 0).next:=fun y hy hyc hys hyp=>by
      rcases ra y hy hyc with h | ⟨_,_,u2,u3,_⟩
      ·exact absurd h hys
      ·rw[hyp] at u2 u3; rw[r1] at u2; exact⟨u2,u3⟩
     have hPe0:Pends P n ops k L E E' ord ph C (C.lift (Hc 0).next) (Hc 0) (Done (Array.replicate ops.size false)) 0:=by
      refine⟨fun y hy hyc hys hyp=>?_,fun y hy z hz hyc hzc hys hzs hyp hzp hid=>ri y hy z hz hyc hzc hys hzs (by omega) hid,fun y hy hyc hys hyp _ v=>?_⟩
      ·obtain⟨k1,k2⟩:=hlow0 y hy hyc hys (by omega)
       rw[←hR.nx] at k1
       exact⟨k1,k2⟩
      ·obtain⟨k1,k2⟩:=hlow0 y hy hyc hys (by omega)
       show C.f (aid E' y) v=none
       cases e:C.f (aid E' y) v with
       | none=>rfl
       | some L'=>have:=hR.fresh _ _ _ e; omega
     have hsched:Region.schedule (P.follows .mixedOrders) ops (w.tape w.drawn (.order b.fn id))=Region.linearise.go .any ops ops.size (w.tape w.drawn (.order b.fn id)) (Array.replicate ops.size false) []:=by
      simp only[Region.schedule,hm,Bool.true_or,if_true]
      rfl
     obtain⟨C',w',a',q1,q2,q3,q4,q5⟩:=sched hk F hn hto hord hall r0 ru r3 r4 r5 ra ri b kk cs ops.size (w.tape w.drawn (.order b.fn id)) (Array.replicate ops.size false) (List.range ops.size) 0 (C.lift (Hc 0).next) w.drew a E
      (by simp) (by simp) (fun i hi _=>by simpa using hi) (fun t ht=>by
       unfold zhq
       rw[if_neg]
       rintro⟨y,_,hy,_⟩
       exact hnot _ hy) (fun y _ hy=>absurd hy (hnot _)) hR1 (hE.mono hle0) (fun q c _=>⟨fun h=>absurd h (hnot _),fun h=>absurd h (Nat.not_lt_zero q)⟩) (Nat.zero_le _) hle0 hPe0
     refine⟨C',w',a',q1,by rw[←r2]; exact q2,q3,q4,.head stepR_region_draw ?_⟩
     rw[hsched]
     exact Steps.trans q5 (.one stepR_region_end)
 ·cases h
theorem zm5 (hk:z3j P k) {w0:World} {C:CM} {H H':Heap} {w:World} {E E':Tr AV} {a:Act} {id:Nat} (hR:Rel w0 C H w) (hE:ER n C E a.tmps)
  (h:(z7t P n ops ops.toList).run k E H=.ok E' H') (b:Frame) (kk:List Item) (cs:List Frame) :
  ∃ C' w' a',C.le C'∧Rel w0 C' H' w'∧ER n C' E' a'.tmps∧a'.defers=a.defers ∧
   Steps P (lone (b.atR a (.code (.region id ops false)::kk)) cs w) (lone (b.atR a' kk) cs w'):=by
 obtain⟨C',w',a',q1,q2,q3,q4,q5⟩:=zlj hk b kk cs ops.toList 0 rfl hR hE h
 refine⟨C',w',a',q1,q2,q3,q4,.head stepR_region ?_⟩
 rw[List.range_eq_range']
 exact Steps.trans q5 (.one stepR_region_end)
end sched
end Go.Sv
namespace Go.Sv
open Go.RowKit (Below)
inductive DR (C:CM):List Nat→List Deferred→Prop where
 | nil:DR C [] []
 | cons {d:Nat} {L:Loc} {l:List Nat} {r:List Deferred} (h:C d 0=some L) (hs:DR C l r):DR C (d::l) ({ target:=.collected L.b,args:=#[] }::r)
theorem DR.mono {C C':CM} (h:C.le C'):∀ {l:List Nat} {r:List Deferred},DR C l r→DR C' l r
 | _,_,.nil=>.nil
 | _,_,.cons e es=>.cons (h.keep _ _ _ e) (DR.mono h es)
def RO (C:CM) (ro r:Option Nat):Prop:=match ro,r with
 | none,none=>True
 | some l,some lb=>∃ L,C l 0=some L∧L.b=lb
 | _,_=>False
theorem RO.mono {C C':CM} (h:C.le C') {ro r:Option Nat} (k:RO C ro r):RO C' ro r:=by
 cases ro <;> cases r <;> simp only[RO] at k ⊢
 obtain⟨L,h1,h2⟩:=k
 exact⟨L,h.keep _ _ _ h1,h2⟩
theorem Rel.putBlock {w0:World} {C:CM} {H:Heap} {w:World} (h:Rel w0 C H w) {o:Nat} {L:Loc} (hL:C o 0=some L) {ob:AObj} {x:Obj} (hB:w0.heap.size≤L.b) (hone:∀ c len ver ro,ob≠.cells c len ver ro)
  (hob:(w.putObj L.b x).heap[L.b]?=some x→ObjR w0.heap.size C (w.putObj L.b x) o ob):Rel w0 C (H.put o ob) (w.putObj L.b x):=by
 have hlt:=h.lt _ _ _ hL
 refine h.put (h.fresh _ _ _ hL) ob (h.low.trans ⟨rfl,rfl,rfl,by simp,fun k hk=>World.putObj_heap_other (by omega)⟩) (by simp) (fun o' v L' hne hL'=>World.putObj_heap_other (fun e=>hne ?_)) (hob (World.putObj_heap_same hlt)) (fun c len ver ro e=>absurd e (hone c len ver ro))
 exact (h.excl _ _ _ _ _ _ hL hL' e.symm hB).symm
theorem zbq {P:Program} {w:World} {o:Nat} {r:Loop} (h:w.heap[o]?=some (.loop r)) (fn:FuncId) (tmps:Array Value) (ps:Array Tmp) (assign body:Code) :
  (Instr.enterLoop fn tmps ps assign body (some o)).run P w =
   .ok (w.heap.size,[]) (w.alloc (.loop { state:=.ready,pending:=none,fn,tmps,params:=ps,assign,body,defers:=r.defers })):=by
 unfold Instr.enterLoop
 simp only[Sem.run_bind,run_getLoop h,run_newObj_alloc,Result.andThen,Sem.run_pure]
theorem zkw {P:Program} {f n:Nat} {ps:Array Tmp} {as bd:Code} {ro:Option Nat} {E:Tr AV} {D:List Nat} {H:Heap} {l:Nat} {D':List Nat} {H':Heap} (h:zdn f n ps as bd ro E D H=some (l,D',H'))
  {w0:World} {C:CM} {w:World} {tm:Array Value} {ds:List Deferred} {r:Option Nat} (hR:Rel w0 C H w) (hE:ER n C E tm) (hD:DR C D ds) (hro:RO C ro r) :
  ∃ C' w1 mark L,C.le C'∧Rel w0 C' H' w1∧(Instr.enterLoop f tm ps as bd r).run P w=.ok (L.b,mark) w1∧C' l 0=some L∧DR C' D' (mark++ds):=by
 unfold zdn at h
 ·split at h
  ·cases h
   cases r with
   | some r=>exact hro.elim
   | none =>
    obtain⟨h1,h2⟩:=hR.push (.defd true) (.deferred (some [])) 0 0 (fun L hL=>by
     rw[CM.ext_same] at hL; cases hL
     exact⟨hR.low.size,z17 _ _⟩)
    have hs1:(C.ext H.next 0 ⟨w.heap.size,0,0,0⟩) H.next 0=some ⟨w.heap.size,0,0,0⟩:=CM.ext_same _ _ _ _
    generalize C.ext H.next 0 ⟨w.heap.size,0,0,0⟩=C1 at h1 h2 hs1
    obtain⟨h3,h4⟩:=h1.push (ob:=.loop .ready none f n E ps as bd H.next) (x:=.loop { state:=.ready,pending:=none,fn:=f,tmps:=tm,params:=ps,assign:=as,body:=bd,defers:=w.heap.size }) 0 0 (fun L hL=>by
     rw[CM.ext_same] at hL; cases hL
     refine⟨h1.low.size,tm,⟨w.heap.size,0,0,0⟩,(CM.le_ext _ (h1.next_none 0) (.inr (Nat.le_of_eq h1.nx))).keep _ _ _ hs1,z17 _ _,(hE.mono h2).mono (CM.le_ext _ (h1.next_none 0) (.inr (Nat.le_of_eq h1.nx)))⟩)
    refine⟨_,_,[{ target:=.collected w.heap.size,args:=#[] }],⟨w.heap.size+1,0,0,0⟩,CM.le_trans h2 h4,h3,?_,?_,?_⟩
    ·exact run_enterLoop_outer f tm ps as bd
    ·have:=CM.ext_same C1 (H.push (.defd true)).next 0 ⟨(w.alloc (.deferred (some []))).heap.size,0,0,0⟩
     rw[World.size_alloc] at this ⊢
     exact this
    ·exact .cons (h4.keep _ _ _ hs1) (hD.mono (CM.le_trans h2 h4))
  ·rename_i lo
   split at h
   ·rename_i d hg
    cases h
    cases r with
    | none=>exact hro.elim
    | some r =>
     obtain⟨Lo,hLo,rfl⟩:=hro
     obtain⟨hB,tm0,Ld,hd,hw,_⟩:=hR.obj _ _ (hR.fresh _ _ _ hLo) hg Lo hLo
     obtain⟨h3,h4⟩:=hR.push (ob:=.loop .ready none f n E ps as bd d) (x:=.loop { state:=.ready,pending:=none,fn:=f,tmps:=tm,params:=ps,assign:=as,body:=bd,defers:=Ld.b }) 0 0 (fun L hL=>by
      rw[CM.ext_same] at hL; cases hL
      exact⟨hR.low.size,tm,Ld,(CM.le_ext _ (hR.next_none 0) (.inr (Nat.le_of_eq hR.nx))).keep _ _ _ hd,z17 _ _,hE.mono (CM.le_ext _ (hR.next_none 0) (.inr (Nat.le_of_eq hR.nx)))⟩)
     refine⟨_,_,[],⟨w.heap.size,0,0,0⟩,h4,h3,?_,CM.ext_same _ _ _ _,hD.mono h4⟩
     exact zbq hw f tm ps as bd
   ·cases h
theorem zim {P:Program} {l:Nat} {H H':Heap} {j:Option Code} (h:zjf l H=some (j,H')) {w0:World} {C:CM} {w:World} (hR:Rel w0 C H w) {L:Loc} (hL:C l 0=some L) :
  ∃ w',(Instr.endLoop L.b).run P w=.ok j w'∧Rel w0 C H' w':=by
 unfold zjf at h
 split at h
 ·rename_i st pend f n E ps a b d hg
  have key:st≠.busy→(some (pend,H.put l (.loop .exhausted pend f n E ps a b d))=some (j,H'))→∃ w',(Instr.endLoop L.b).run P w=.ok j w'∧Rel w0 C H' w':=fun hst e=>by
   cases e
   obtain⟨hB,tm,Ld,hd,hw,hE⟩:=hR.obj _ _ (hR.fresh _ _ _ hL) hg L hL
   refine⟨_,run_endLoop hw hst,hR.putBlock hL hB (fun _ _ _ _ e=>by cases e) (fun hnew L' hL'=>?_)⟩
   rw[hL] at hL'; cases hL'
   exact⟨hB,tm,Ld,hd,hnew,hE⟩
  split at h
  ·cases h
  ·rename_i hne
   exact key (fun e=>hne e) h
 ·cases h
theorem zmk {P:Program} {C:CM} {w:World} {g:AV} {ρ:Operand→Value} {gop:Operand} (hρ:∀ v,ρ (.const v)=v) (hg:VR C g (ρ gop)) {l:Nat} {L:Loc} (hL:C l 0=some L) {f:Nat} {args:List AV}
  (h:zbf P g [.fn (.yield l) [] []]=.call (.fn f) args) :
  ∃ d vs,(resolve ρ (rangeCall gop L.b) 0).run P w=.ok d w∧(invoke d.target d.args).run P w=.ok (.enter f (List.toArray vs)) w∧VRs C args vs:=by
 have hy:VRs C [AV.fn (.yield l) [] []] [Value.func (.yield L.b) #[] #[]]:=.cons (.fn (.yield hL) .nil .nil) .nil
 generalize hgv:ρ gop=gv at hg
 have hres:∀ fn first cap,gv=.func fn first cap→(resolve ρ (rangeCall gop L.b) 0).run P w=.ok { target:=.fn fn cap,args:=first++#[Value.func (.yield L.b) #[] #[]] } w:=by
  intro fn first cap e
  subst e
  simp only[resolve,hgv,Deferred.ofValue,Sem.run_pure]
  simp[hρ]
 unfold zbf at h
 split at h
 ·rename_i f' first cap
  split at h
  ·rename_i hc
   cases h
   cases hg with
   | @fn _ g' _ _ l' r' hf hl hr =>
    cases hf with
    | same =>
     refine⟨_,l'.toList++[Value.func (.yield L.b) #[] #[]]++r'.toList,hres _ _ _ rfl,?_,(hl.append hy).append hr⟩
     have:(l'++#[Value.func (.yield L.b) #[] #[]]++r')=(l'.toList++[Value.func (.yield L.b) #[] #[]]++r'.toList).toArray:=by simp
     rw[←this]
     exact zaf hc _
  ·cases h
 ·cases h
 ·cases h
def Come (P:Program) (b:Frame) (m:Machine) (cs:List Frame) (kk:List Item) (a':Act) (w':World):Ex→Prop
 | .normal=>Steps P m (lone (b.atR a' kk) cs w')
 | .exit id=>∃ k1,exitTo id k1=exitTo id kk∧Steps P m (lone (b.atR a' (.code (.exit id)::k1)) cs w')
 | .ret=>∃ k1,Steps P m (lone (b.atR a' (.code .ret::k1)) cs w')
theorem Come.head {P:Program} {b:Frame} {m m1:Machine} {cs:List Frame} {kk:List Item} {a':Act} {w':World} {x:Ex} (h:Steps P m m1) (k:Come P b m1 cs kk a' w' x):Come P b m cs kk a' w' x:=by
 cases x with
 | normal=>exact Steps.trans h k
 | exit id=>obtain⟨k1,e,s⟩:=k; exact⟨k1,e,Steps.trans h s⟩
 | ret=>obtain⟨k1,s⟩:=k; exact⟨k1,Steps.trans h s⟩
section scope
variable {P : Program} {b : Frame} {a : Act} {k : List Item} {cs : List Frame} {w : World} {c : Code}
theorem stepR_scope:step P (lone (b.atR a (.code (.scope c)::k)) cs w)=.next (lone (b.atR a (.code c::.inScope c::k)) cs w):=step_lone_go (by simp[stepG,stepG.exec,Frame.atR])
theorem stepR_inScope:step P (lone (b.atR a (.inScope c::k)) cs w)=.next (lone (b.atR a k) cs w):=step_lone_go (by simp[stepG,stepG.exec,Frame.atR])
end scope
structure Both (w0:World) (n:Nat) (C:CM) (E:Tr AV) (D:List Nat) (H:Heap) (a:Act) (w:World):Prop where
 rel:Rel w0 C H w
 env:ER n C E a.tmps
 defs:DR C D a.defers
def CodeOk (P:Program) (f n:Nat) (cf:CodeF) (c:Code):Prop :=
 ∀ (k:z3c),z3j P k→∀ (m:Nat) (ro:Option Nat) (w0:World) (C:CM) (E:Tr AV) (D:List Nat) (H:Heap) (a:Act) (w:World) (b:Frame) (x:Ex) (E':Tr AV) (D':List Nat) (H':Heap),
  Both w0 n C E D H a w→b.fn=f→RO C ro b.roundOf→cf.run k m ro E D H=.ok x E' D' H'→∀ (kk:List Item) (cs:List Frame),
  ∃ C' w' a',C.le C'∧Both w0 n C' E' D' H' a' w'∧Come P b (lone (b.atR a (.code c::kk)) cs w) cs kk a' w' x
theorem z2j {P:Program} (hm:P.follows .mixedOrders=true) (f n:Nat):∀ (c:Code),CodeOk P f n (z0h P f n c) c
 | .skip=>by
  intro k hk m ro w0 C E D H a w b x E' D' H' hB hf hro h kk cs
  cases h
  exact⟨C,w,a,CM.le_refl C,hB,.one stepR_skip⟩
 | .label l=>by
  intro k hk m ro w0 C E D H a w b x E' D' H' hB hf hro h kk cs
  cases h
  exact⟨C,w,a,CM.le_refl C,hB,.one stepR_label⟩
 | .exit id=>by
  intro k hk m ro w0 C E D H a w b x E' D' H' hB hf hro h kk cs
  cases h
  exact⟨C,w,a,CM.le_refl C,hB,kk,rfl,.refl _ _⟩
 | .ret=>by
  intro k hk m ro w0 C E D H a w b x E' D' H' hB hf hro h kk cs
  cases h
  exact⟨C,w,a,CM.le_refl C,hB,kk,.refl _ _⟩
 | .region id ops draw=>by
  intro k hk m ro w0 C E D H a w b x E' D' H' hB hf hro h kk cs
  simp only[z0h] at h
  cases draw with
  | true =>
   dsimp only at h
   split at h
   ·cases h
   ·rename_i E1 H1 hr
    cases h
    obtain⟨C',w',a',q1,q2,q3,q4,q5⟩:=zr2 hm hk (id:=id) hB.rel hB.env hr b kk cs
    exact⟨C',w',a',q1,⟨q2,q3,by rw[q4]; exact hB.defs.mono q1⟩,q5⟩
  | false =>
   dsimp only at h
   split at h
   ·cases h
   ·rename_i E1 H1 hr
    cases h
    obtain⟨C',w',a',q1,q2,q3,q4,q5⟩:=zm5 hk (id:=id) hB.rel hB.env hr b kk cs
    exact⟨C',w',a',q1,⟨q2,q3,by rw[q4]; exact hB.defs.mono q1⟩,q5⟩
 | .seq c1 c2=>by
  intro k hk m ro w0 C E D H a w b x E' D' H' hB hf hro h kk cs
  simp only[z0h] at h
  cases h1:(z0h P f n c1).run k m ro E D H with
  | no=>rw[h1] at h; cases h
  | ok x1 E1 D1 H1 =>
   rw[h1] at h
   obtain⟨C1,w1,a1,q1,q2,q3⟩:=z2j hm f n c1 k hk m ro w0 C E D H a w b x1 E1 D1 H1 hB hf hro h1 (.code c2::kk) cs
   cases x1 with
   | normal =>
    dsimp only at h
    obtain⟨C2,w2,a2,r1,r2,r3⟩:=z2j hm f n c2 k hk m ro w0 C1 E1 D1 H1 a1 w1 b x E' D' H' q2 hf (hro.mono q1) h kk cs
    exact⟨C2,w2,a2,CM.le_trans q1 r1,r2,r3.head (.head stepR_seq q3)⟩
   | exit id =>
    cases h
    obtain⟨k1,e,s⟩:=q3
    exact⟨C1,w1,a1,q1,q2,k1,e,.head stepR_seq s⟩
   | ret =>
    cases h
    obtain⟨k1,s⟩:=q3
    exact⟨C1,w1,a1,q1,q2,k1,.head stepR_seq s⟩
 | .cond c c1 c2=>by
  intro k hk m ro w0 C E D H a w b x E' D' H' hB hf hro h kk cs
  simp only[z0h] at h
  split at h
  ·rename_i t ht
   have hv:=z8j hB.env c _ ht
   have hv':a.eval c=.bool t:=by
    generalize a.eval c=v at hv
    cases hv
    rfl
   split at h
   ·obtain⟨C1,w1,a1,q1,q2,q3⟩:=z2j hm f n c1 k hk m ro w0 C E D H a w b x E' D' H' hB hf hro h kk cs
    exact⟨C1,w1,a1,q1,q2,q3.head (.one (by rw[stepR_cond hv']; rfl))⟩
   ·obtain⟨C1,w1,a1,q1,q2,q3⟩:=z2j hm f n c2 k hk m ro w0 C E D H a w b x E' D' H' hB hf hro h kk cs
    exact⟨C1,w1,a1,q1,q2,q3.head (.one (by rw[stepR_cond hv']; rfl))⟩
  ·cases h
 | .block id c=>by
  intro k hk m ro w0 C E D H a w b x E' D' H' hB hf hro h kk cs
  simp only[z0h] at h
  split at h
  ·cases h
  ·rename_i x1 E1 D1 H1 h1
   obtain⟨C1,w1,a1,q1,q2,q3⟩:=z2j hm f n c k hk m ro w0 C E D H a w b x1 E1 D1 H1 hB hf hro h1 (.inBlock id::kk) cs
   cases x1 with
   | normal =>
    cases h
    exact⟨C1,w1,a1,q1,q2,Steps.head stepR_block (Steps.trans q3 (.one stepR_inBlock))⟩
   | exit id' =>
    dsimp only at h
    obtain⟨k1,e,s⟩:=q3
    split at h
    ·rename_i hid
     cases h
     have hid':id'=id:=Nat.eq_of_beq_eq_true hid
     subst hid'
     refine⟨C1,w1,a1,q1,q2,Steps.head stepR_block (Steps.trans s (.one (stepR_exit ?_)))⟩
     rw[e]
     simp[exitTo]
    ·rename_i hid
     cases h
     refine⟨C1,w1,a1,q1,q2,k1,?_,.head stepR_block s⟩
     rw[e]
     have hne:¬ id=id':=fun q=>by subst q; rw[Nat.beq_refl] at hid; cases hid
     simp[exitTo,hne]
   | ret =>
    cases h
    obtain⟨k1,s⟩:=q3
    exact⟨C1,w1,a1,q1,q2,k1,.head stepR_block s⟩
 | .scope c=>by
  intro k hk m ro w0 C E D H a w b x E' D' H' hB hf hro h kk cs
  simp only[z0h] at h
  obtain⟨C1,w1,a1,q1,q2,q3⟩:=z2j hm f n c k hk m ro w0 C E D H a w b x E' D' H' hB hf hro h (.inScope c::kk) cs
  refine⟨C1,w1,a1,q1,q2,?_⟩
  cases x with
  | normal=>exact Steps.head stepR_scope (Steps.trans q3 (.one stepR_inScope))
  | exit id =>
   obtain⟨k1,e,s⟩:=q3
   exact⟨k1,e,.head stepR_scope s⟩
  | ret =>
   obtain⟨k1,s⟩:=q3
   exact⟨k1,.head stepR_scope s⟩
 | .loop c=>by
  intro k hk m ro w0 C E D H a w b x E' D' H' hB hf hro h kk cs
  simp only[z0h] at h
  have ih:=z2j hm f n c
  have key:∀ (j:Nat) (C:CM) (E:Tr AV) (D:List Nat) (H:Heap) (a:Act) (w:World),Both w0 n C E D H a w→RO C ro b.roundOf→zgx ((z0h P f n c).run k m ro) j E D H=.ok x E' D' H' →
    ∃ C' w' a',C.le C'∧Both w0 n C' E' D' H' a' w'∧Come P b (lone (b.atR a (.code c::.inLoop c::kk)) cs w) cs kk a' w' x:=by
   intro j
   induction j with
   | zero=>intro C E D H a w _ _ h; cases h
   | succ j ihj =>
    intro C E D H a w hB hro h
    simp only[zgx] at h
    split at h
    ·cases h
    ·rename_i x1 E1 D1 H1 h1
     obtain⟨C1,w1,a1,q1,q2,q3⟩:=ih k hk m ro w0 C E D H a w b x1 E1 D1 H1 hB hf hro h1 (.inLoop c::kk) cs
     cases x1 with
     | normal =>
      dsimp only at h
      obtain⟨C2,w2,a2,r1,r2,r3⟩:=ihj C1 E1 D1 H1 a1 w1 q2 (hro.mono q1) h
      exact⟨C2,w2,a2,CM.le_trans q1 r1,r2,r3.head (Steps.trans q3 (.one stepR_inLoop))⟩
     | exit id =>
      cases h
      obtain⟨k1,e,s⟩:=q3
      exact⟨C1,w1,a1,q1,q2,k1,e,s⟩
     | ret =>
      cases h
      obtain⟨k1,s⟩:=q3
      exact⟨C1,w1,a1,q1,q2,k1,s⟩
  obtain⟨C1,w1,a1,q1,q2,q3⟩:=key m C E D H a w hB hro h
  exact⟨C1,w1,a1,q1,q2,q3.head (.one stepR_loop)⟩
 | .rangeFunc g ps as bd=>by
  intro k hk m ro w0 C E D H a w b x E' D' H' hB hf hro h kk cs
  simp only[z0h] at h
  split at h
  ·cases h
  ·rename_i gv hg
   split at h
   ·cases h
   ·rename_i l D1 H1 he
    obtain⟨C1,w1,mark,L,q1,q2,q3,q4,q5⟩:=zkw (P:=P) he hB.rel hB.env hB.defs hro
    split at h
    ·rename_i t args hcall
     split at h
     ·cases h
     ·rename_i v H2 hk2
      obtain⟨d,vs,s1,s2,s3⟩:=zmk (P:=P) (w:=w1) (ρ:=a.eval) (gop:=g) (fun _=>rfl) ((z8j hB.env g _ hg).mono q1) q4 hcall
      have hsteps:=hk _ _ _ _ _ _ _ _ _ q2 s3 hk2 (b.atR { a with defers:=mark++a.defers } (.inRangeFunc L.b::kk)::cs)
      obtain⟨C2,w2,v',fr,t1,t2,t3,t4,t5,t6⟩:=hsteps
      rw[←hf] at q3
      have st0:=stepR_rangeFunc (P:=P) (b:=b) (a:=a) (k:=kk) (cs:=cs) (w:=w) q3 s1 s2
      have back:=step_leave_returned (c:=b.atR { a with defers:=mark++a.defers } (.inRangeFunc L.b::kk)) (cs:=cs) t6
      rw[finish_atR_inRangeFunc] at back
      have hdef:DR C2 D1 ({ a with defers:=mark++a.defers }:Act).defers:=q5.mono t1
      have henv:ER n C2 E ({ a with defers:=mark++a.defers }:Act).tmps:=(hB.env.mono q1).mono t1
      split at h
      ·cases h
      ·rename_i H3 hend
       cases h
       obtain⟨w3,u1,u2⟩:=zim (P:=P) hend t2 (t1.keep _ _ _ q4)
       refine⟨C2,w3,{ a with defers:=mark++a.defers },CM.le_trans q1 t1,⟨u2,henv,hdef⟩,?_⟩
       refine Steps.head st0 (Steps.trans t4 (.head back (.one ?_)))
       rw[stepR_endRangeFunc u1]
       rfl
      ·rename_i c H3 hend
       obtain⟨w3,u1,u2⟩:=zim (P:=P) hend t2 (t1.keep _ _ _ q4)
       split at h
       ·cases h
       ·rename_i x1 hx
        cases h
        have go:Steps P (lone (b.atR a (.code (.rangeFunc g ps as bd)::kk)) cs w) (lone (b.atR { a with defers:=mark++a.defers } (.code c::kk)) cs w3) :=
         .head st0 (Steps.trans t4 (.head back (.one (by rw[stepR_endRangeFunc u1]; rfl))))
        refine⟨C2,w3,{ a with defers:=mark++a.defers },CM.le_trans q1 t1,⟨u2,henv,hdef⟩,?_⟩
        unfold exOf at hx
        split at hx
        ·cases hx; exact⟨kk,go⟩
        ·cases hx; exact⟨kk,rfl,go⟩
        ·cases hx
    ·cases h
 | .goto _=>by
  intro k hk m ro w0 C E D H a w b x E' D' H' hB hf hro h kk cs
  cases h
 | .refuse _=>by
  intro k hk m ro w0 C E D H a w b x E' D' H' hB hf hro h kk cs
  cases h
end Go.Sv
namespace Go.Sv
open Go.RowKit (Below)
theorem resF_ok {P:Program} {r:ResultVar} {n:Nat} {w0:World} {C:CM} {E:Tr AV} {H:Heap} {w:World} {a:Act} (hR:Rel w0 C H w) (hE:ER n C E a.tmps) {v:AV} (h:(resF P r).run E H=some v) :
  ∃ x,(match r with
   | .tmp t=>pure (a.tmps.getD t undef)
   | .cell c t=>do loadVar t (←asAddr (a.tmps.getD c undef)):Sem Value).run P w=.ok x w∧VR C v x:=by
 have htmp:∀ t,a.eval (.tmp t)=a.tmps.getD t undef:=fun t=>by
  show a.tmps.getD t undef=_
  rfl
 cases r with
 | tmp t =>
  simp only[resF] at h
  have:=z8j hE _ _ h
  rw[htmp] at this
  exact⟨_,by simp[Sem.run_pure],this⟩
 | cell c t =>
  unfold resF at h
  dsimp only at h ⊢
  split at h
  ·rename_i n ha hs
   dsimp only at h
   split at h
   ·rename_i o ver i ho
    split at h
    ·rename_i l hl
     cases h
     have hv:=z8j hE _ _ ho
     rw[htmp] at hv
     generalize a.tmps.getD c undef=px at hv
     cases hv with
     | ptr hL =>
      obtain⟨vs,h1,h2,h3,h4,_⟩:=hR.read P hl hL
      exact⟨.agg vs.toArray,by simp[asAddr,loadVar,z8a ha,z16 hs,h1],.agg (by simpa using h2) h3⟩
    ·cases h
   ·cases h
  ·rename_i n ha hs
   dsimp only at h
   split at h
   ·rename_i o ver i ho
    split at h
    ·rename_i cv hl
     cases h
     have hv:=z8j hE _ _ ho
     rw[htmp] at hv
     generalize a.tmps.getD c undef=px at hv
     cases hv with
     | ptr hL =>
      obtain⟨vs,h1,h2,h3,h4,h5,h6⟩:=hR.read P hl hL
      have h6':=h6 0 (by omega)
      match vs,h2 with
      | [u],.cons hu .nil =>
       simp only[Nat.add_zero,List.getElem?_cons_zero] at h6'
       exact⟨u,by simp[asAddr,loadVar,z8a ha,h6'],hu⟩
    ·cases h
   ·cases h
  ·cases h
theorem zpv {P:Program} {n:Nat} {w0:World} {C:CM} {E:Tr AV} {H:Heap} {w:World} {a:Act} (hR:Rel w0 C H w) (hE:ER n C E a.tmps):∀ {l:List ResultVar} {vs:List AV},(zmb P l).run E H=some vs →
  ∃ xs,(l.mapM fun
   | .tmp t=>pure (a.tmps.getD t undef)
   | .cell c t=>do loadVar t (←asAddr (a.tmps.getD c undef)):Sem (List Value)).run P w=.ok xs w∧VRs C vs xs
 | [],vs,h=>by
  cases h
  exact⟨[],by simp[Sem.run_pure],.nil⟩
 | r::l,vs,h=>by
  simp only[zmb] at h
  split at h
  ·cases h
  ·rename_i v hv
   split at h
   ·cases h
   ·rename_i vs' hvs
    cases h
    obtain⟨x,h1,h2⟩:=resF_ok hR hE hv
    obtain⟨xs,h3,h4⟩:=zpv hR hE hvs
    refine⟨x::xs,?_,.cons h2 h4⟩
    rw[List.mapM_cons,Sem.run_bind]
    have h1':=h1
    cases r <;> (dsimp only at h1' ⊢; rw[h1']; simp only[Result.andThen_ok,Sem.run_bind,h3,Sem.run_pure])
theorem ziq {P:Program} {fn:Func} {n:Nat} {w0:World} {C:CM} {E:Tr AV} {H:Heap} {w:World} {a:Act} (hR:Rel w0 C H w) (hE:ER n C E a.tmps) {vs:List AV} (h:(zmb P fn.results.toList).run E H=some vs) :
  ∃ x,(results fn a.tmps).run P w=.ok x w∧VR C (match vs with
   | [v]=>v
   | l=>.tup l) x:=by
 obtain⟨xs,h1,h2⟩:=zpv hR hE h
 have hm:(fn.results.mapM fun
   | .tmp t=>pure (a.tmps.getD t undef)
   | .cell c t=>do loadVar t (←asAddr (a.tmps.getD c undef)):Sem (Array Value)).run P w=.ok xs.toArray w:=by
  rw[Array.mapM_eq_mapM_toList]
  rw[map_eq_pure_bind,Sem.run_bind,h1]
  rfl
 refine⟨if h:xs.toArray.size=1 then xs.toArray[0] else .tuple xs.toArray,?_,?_⟩
 ·unfold results
  rw[Sem.run_bind]
  exact (congrArg (fun r=>Result.andThen r _) hm).trans rfl
 ·cases h2 with
  | nil=>exact .tup .nil
  | cons e es =>
   cases es with
   | nil=>exact e
   | cons e' es' =>
    simp only[List.size_toArray,List.length_cons]
    rw[dif_neg (by omega)]
    exact .tup (.cons e (.cons e' es'))
theorem zv0 {P:Program} {fr:Frame} {cs:List Frame} {w:World} {blk:Nat} {ds:List Deferred} (hm:fr.mode=.returning) (hd:fr.defers={ target:=.collected blk,args:=#[] }::ds) (hw:w.heap[blk]?=some (.deferred (some []))) :
  step P (lone fr cs w)=.next (lone { fr with defers:=ds } cs (w.putObj blk (.deferred none))) :=
 step_lone_go (by simp[stepG,unwind,hm,hd,Sem.runT_eq,run_takeDeferred hw,GStep.bare_after])
theorem zq2 {P:Program} {w0:World} {C:CM}:∀ {D:List Nat} {ds:List Deferred} {H H':Heap} {w:World} {fr:Frame} (cs:List Frame),DR C D ds→z8f D H=some H'→Rel w0 C H w→fr.mode=.returning→fr.defers=ds →
  ∃ w',Rel w0 C H' w'∧Steps P (lone fr cs w) (lone { fr with defers:=[] } cs w')
 | _,_,H,H',w,fr,cs,.nil,h,hR,hm,hd=>by
  cases h
  refine⟨w,hR,?_⟩
  have:fr={ fr with defers:=[] }:=by cases fr; cases hd; rfl
  rw[←this]
  exact .refl _ _
 | _,_,H,H',w,fr,cs,.cons (d:=d) (L:=L) (r:=r) hL hs,h,hR,hm,hd=>by
  simp only[z8f] at h
  split at h
  ·rename_i hg
   obtain⟨hB,hw⟩:=hR.obj _ _ (hR.fresh _ _ _ hL) hg L hL
   have hR':Rel w0 C (H.put d (.defd false)) (w.putObj L.b (.deferred none)):=hR.putBlock hL hB (fun _ _ _ _ e=>by cases e) (fun hnew L' hL'=>by
    rw[hL] at hL'; cases hL'
    exact⟨hB,hnew⟩)
   obtain⟨w',h1,h2⟩:=zq2 (fr:={ fr with defers:=r }) cs hs h hR' hm rfl
   exact⟨w',h1,.head (zv0 hm hd hw) h2⟩
  ·cases h
theorem ER.start {C:CM} {args:List AV} {vs:List Value} (hv:VRs C args vs) {n:Nat} (hn:n≤lim) (hl:args.length≤n):ER n C (z0g args 0 .e) (vs.toArray++Array.replicate (n - vs.toArray.size) undef):=by
 have hlen:=hv.length
 refine⟨by simp; omega,hn,fun t ht=>?_⟩
 rw[get_ofList args 0 .e t,z7h]
 rw[Array.getD_eq_getD_getElem?]
 by_cases h:t < args.length
 ·rw[if_pos ⟨Nat.zero_le _,by omega⟩]
  obtain⟨a,v,q1,q2,q3⟩:=hv.get' h
  rw[Nat.sub_zero,q1]
  rw[Array.getElem?_append_left (by simp; omega)]
  simp only[List.getElem?_toArray,q2,Option.getD_some]
  exact q3
 ·rw[if_neg (by omega)]
  show _=undef
  rw[Array.getElem?_append_right (by simp; omega),Array.getElem?_replicate]
  split <;> rfl
theorem setPs_ok {C:CM}:∀ (ps:List Tmp) (args:List AV) (vs:List Value) {n:Nat} {E E':Tr AV} {tm:Array Value},zwq ps args n E=some E'→VRs C args vs→ER n C E tm →
  ps.length=vs.length∧ER n C E' ((ps.zip vs).foldl (fun tmps (t,a)=>tmps.setIfInBounds t a) tm):=by
 intro ps
 induction ps with
 | nil =>
  intro args vs n E E' tm h hv hE
  cases hv with
  | nil=>cases h; exact⟨rfl,hE⟩
  | cons e es=>cases h
 | cons p ps ih =>
  intro args vs n E E' tm h hv hE
  cases hv with
  | nil=>cases h
  | cons e es =>
   simp only[zwq] at h
   split at h
   ·rename_i hp
    have hp':p < n:=Nat.le_of_ble_eq_true hp
    have hE1:=ER.put (a:={ tmps:=tm,defers:=[] }) hE (d:=some p) (fun t ht=>by cases ht; exact hp') e
    obtain⟨h1,h2⟩:=ih _ _ h es hE1
    exact⟨by simp[h1],h2⟩
   ·cases h
theorem ztf {P:Program} (hm:P.follows .mixedOrders=true) {k:z3c} (hk:z3j P k) {f m:Nat} {w0:World} {C:CM} {H H':Heap} {w:World} {args:List AV} {vs:List Value} {v:AV} (hR:Rel w0 C H w) (hv:VRs C args vs)
  (h:(zgg P f).run k m args H=.ok v H'):zmf P w0 C w (.fn f) vs v H':=by
 unfold zgg at h
 split at h
 ·cases h
 ·rename_i fn hf
  split at h
  ·cases h
  ·rename_i body hbd
   split at h
   ·rename_i hlim
    dsimp only at h
    split at h
    ·cases h
    ·rename_i hlen
     have hlen':args.length≤fn.ntmps:=Nat.le_of_ble_eq_true hlen
     split at h
     ·cases h
     ·rename_i x E D H1 hrun
      intro cs
      let b:Frame:={ (default:Frame) with fn:=f,kind:=.normal,roundOf:=none }
      have henter:Frame.enter P f vs.toArray .normal=b.atR { tmps:=vs.toArray++Array.replicate (fn.ntmps - vs.toArray.size) undef,defers:=[] } [.code body]:=by
       simp[Frame.enter,Frame.atR,hf,hbd,b]
      obtain⟨C1,w1,a1,q1,q2,q3⟩:=z2j hm f fn.ntmps body k hk m none w0 C (z0g args 0 .e) [] H { tmps:=vs.toArray++Array.replicate (fn.ntmps - vs.toArray.size) undef,defers:=[] } w b x E D H1
       ⟨hR,ER.start hv hlim hlen',.nil⟩ rfl trivial hrun [] cs
      rw[←henter] at q3
      have key:∀ todo,Steps P (lone (Frame.enter P f vs.toArray .normal) cs w) (lone { b.atR a1 todo with mode:=.returning } cs w1) →
        (match z8f D H1 with
         | none=>RV.no
         | some H2=>match (zmb P fn.results.toList).run E H2 with
          | some [v]=>.ok v H2
          | some l=>.ok (.tup l) H2
          | none=>.no)=.ok v H' →
        ∃ C' w' v' fr,C.le C'∧Rel w0 C' H' w'∧VR C' v v'∧Steps P (lone (Frame.enter P f vs.toArray .normal) cs w) (lone fr cs w')∧fr.fn=f∧fr.leaving P w' (.returned v'):=by
       intro todo hs he
       split at he
       ·cases he
       ·rename_i H2 htd
        obtain⟨w2,r1,r2⟩:=zq2 (fr:={ b.atR a1 todo with mode:=.returning }) cs q2.defs htd q2.rel rfl rfl
        split at he
        ·rename_i v1 hres
         cases he
         obtain⟨xv,s1,s2⟩:=ziq (fn:=fn) r1 q2.env hres
         exact⟨C1,w2,xv,_,q1,r1,s2,Steps.trans hs r2,rfl,rfl,rfl,rfl,fn,hf,s1⟩
        ·rename_i l hne hres
         cases he
         obtain⟨xv,s1,s2⟩:=ziq (fn:=fn) r1 q2.env hres
         refine⟨C1,w2,xv,_,q1,r1,?_,Steps.trans hs r2,rfl,rfl,rfl,rfl,fn,hf,s1⟩
         rcases l with _ | ⟨u,_ | ⟨u2,l⟩⟩
         ·exact s2
         ·exact absurd rfl (hne u)
         ·exact s2
        ·cases he
      cases x with
      | exit id=>cases h
      | normal=>exact key [] (Steps.trans q3 (.one (stepR_end rfl))) h
      | ret =>
       obtain⟨k1,s⟩:=q3
       exact key (.code .ret::k1) (Steps.trans s (.one (stepR_ret rfl))) h
   ·cases h
theorem zol {P:Program} {l:Nat} {x:Ex} {H H':Heap} {v:AV} (h:zfj l x H=.ok v H') {w0:World} {C:CM} {w:World} (hR:Rel w0 C H w) {L:Loc} (hL:C l 0=some L) :
  ∃ w' xv,(Instr.endRound L.b (match x with
   | .normal=>none
   | .ret=>some .ret
   | .exit id=>some (.exit id))).run P w=.ok xv w'∧Rel w0 C H' w'∧VR C v xv:=by
 unfold zfj at h
 split at h
 ·rename_i st pend f n E ps a b d hg
  obtain⟨hB,tm,Ld,hd,hw,hE⟩:=hR.obj _ _ (hR.fresh _ _ _ hL) hg L hL
  split at h
  ·cases h
   refine⟨_,_,run_endRound none hw,hR.putBlock hL hB (fun _ _ _ _ e=>by cases e) (fun hnew L' hL'=>?_),.bool true⟩
   rw[hL] at hL'; cases hL'
   exact⟨hB,tm,Ld,hd,hnew,hE⟩
  ·cases h
   refine⟨_,_,run_endRound (some .ret) hw,hR.putBlock hL hB (fun _ _ _ _ e=>by cases e) (fun hnew L' hL'=>?_),.bool false⟩
   rw[hL] at hL'; cases hL'
   exact⟨hB,tm,Ld,hd,hnew,hE⟩
  ·rename_i id
   cases h
   refine⟨_,_,run_endRound (some (.exit id)) hw,hR.putBlock hL hB (fun _ _ _ _ e=>by cases e) (fun hnew L' hL'=>?_),.bool false⟩
   rw[hL] at hL'; cases hL'
   exact⟨hB,tm,Ld,hd,hnew,hE⟩
 ·cases h
theorem begin_ok {P:Program} {l:Nat} {H H':Heap} (h:zpr l H=some H') {w0:World} {C:CM} {w:World} (hR:Rel w0 C H w) {L:Loc} (hL:C l 0=some L) :
  ∃ w',(Instr.beginRound L.b).run P w=.ok () w'∧Rel w0 C H' w':=by
 unfold zpr at h
 split at h
 ·rename_i pend f n E ps a b d hg
  cases h
  obtain⟨hB,tm,Ld,hd,hw,hE⟩:=hR.obj _ _ (hR.fresh _ _ _ hL) hg L hL
  refine⟨_,run_beginRound hw rfl,hR.putBlock hL hB (fun _ _ _ _ e=>by cases e) (fun hnew L' hL'=>?_)⟩
  rw[hL] at hL'; cases hL'
  exact⟨hB,tm,Ld,hd,hnew,hE⟩
 ·cases h
theorem zby {P:Program} (hm:P.follows .mixedOrders=true) {O:z3c} (hO:z3j P O):∀ m,z3j P (z4z P O m)
 | 0=>fun _ _ _ _ _ _ _ _ _ _ _ h=>by cases h
 | m+1=>by
  have ih:=zby hm hO m
  intro w0 C H w t args vs v H' hR hv h
  unfold z4z at h
  cases t with
  | fn f =>
   dsimp only at h
   split at h
   ·rename_i v1 H1 ho
    cases h
    exact hO _ _ _ _ _ _ _ _ _ hR hv ho
   ·exact ztf hm ih hR hv h
  | yield l =>
   dsimp only at h
   split at h
   ·rename_i f n E ps a b d hg
    split at h
    ·cases h
    ·rename_i E1 hE1
     split at h
     ·rename_i E2 H2 hra
      split at h
      ·cases h
      ·rename_i H2' hbe
       split at h
       ·cases h
       ·rename_i x E3 D H3 hrb
        split at h
        ·intro L hL c cs
         obtain⟨hB,tm,Ld,hd,hw,hE⟩:=hR.obj _ _ (hR.fresh _ _ _ hL) hg L hL
         obtain⟨hlen,hER⟩:=setPs_ok _ _ _ hE1 hv hE
         have hy:=run_yield (P:=P) (args:=vs.toArray) hw (by simpa using hlen.symm)
         dsimp only at hy
         have hfold:((ps.zip vs.toArray).foldl (fun tmps (t,a)=>tmps.setIfInBounds t a) tm)=((ps.toList.zip vs).foldl (fun tmps (t,a)=>tmps.setIfInBounds t a) tm):=by
          rw[←Array.foldl_toList,Array.toList_zip]
         rw[hfold] at hy
         let bf:Frame:={ (default:Frame) with fn:=f,kind:=.normal,roundOf:=some L.b }
         have hro:RO C (some l) bf.roundOf:=⟨L,hL,rfl⟩
         obtain⟨C1,w1,a1,q1,q2,q3⟩:=z2j hm f n a (z4z P O m) ih m (some l) w0 C E1 [] H { tmps:=(ps.toList.zip vs).foldl (fun tmps (t,a)=>tmps.setIfInBounds t a) tm,defers:=[] } w bf .normal E2 [] H2
          ⟨hR,hER,.nil⟩ rfl hro hra [.beginRound,.code b] (c::cs)
         obtain⟨w2,r1,r2⟩:=begin_ok (P:=P) hbe q2.rel (q1.keep _ _ _ hL)
         obtain⟨C2,w3,a3,s1,s2,s3⟩:=z2j hm f n b (z4z P O m) ih m (some l) w0 C1 E2 [] H2' a1 w2 bf x E3 [] H3 ⟨r2,q2.env,q2.defs⟩ rfl (hro.mono q1) hrb [] (c::cs)
         obtain⟨w4,xv,t1,t2,t3⟩:=zol (P:=P) h s2.rel (s1.keep _ _ _ (q1.keep _ _ _ hL))
         refine⟨C2,w4,xv,f,_,a,b,CM.le_trans q1 s1,t2,t3,hy,?_⟩
         have hround:Frame.round L.b f ((ps.toList.zip vs).foldl (fun tmps (t,a)=>tmps.setIfInBounds t a) tm) a b .normal=bf.atR { tmps:=(ps.toList.zip vs).foldl (fun tmps (t,a)=>tmps.setIfInBounds t a) tm,defers:=[] } [.code a,.beginRound,.code b]:=by
          simp[Frame.round,Frame.atR,bf]
         rw[hround]
         refine Steps.trans q3 (.head (stepR_beginRound rfl r1) ?_)
         cases x with
         | normal=>exact Steps.trans s3 (.one (stepR_round_end rfl rfl t1))
         | ret =>
          obtain⟨k1,s⟩:=s3
          exact Steps.trans s (.one (stepR_round_ret rfl rfl t1))
         | exit id =>
          obtain⟨k1,e,s⟩:=s3
          exact Steps.trans s (.one (stepR_round_exit rfl rfl e t1))
        ·cases h
     ·cases h
   ·cases h
theorem Rel.start (w:World):Rel w ⟨fun _ _=>none,0⟩ ⟨.e,0⟩ w :=
 ⟨rfl,.refl _ _,fun _ _ _ h=>(by cases h),fun _ _ _ h=>(by cases h),fun _ _ _ _ _ _ h=>(by cases h),fun _ _ h=>absurd h (Nat.not_lt_zero _),fun _ _ _ _ _ h=>absurd h (Nat.not_lt_zero _)⟩
end Go.Sv
namespace Go.Sv
open Go.RowKit Go.ChangeShapes Go.WideShapes Go.ChangeAt
variable {H : Type} {enc : TypeId × Value → H} {P : Program}
theorem zrg {f:Func} {s:ChangeSpec} {apart fresh handsOn again:Bool} {W W':World} {args:Array Value} {v:Value} {ds gs:List (DataW H)} {before pa pv:List MemPlace}
  (hW:DataW.Whole enc P f.params.toList s.vars apart W args.toList ds gs before)
  (hres:∀ (b:Nat) (sp:Nat→Bool) (hd:Bool),DataW.TrodAll enc P W' b sp hd f.resultTypes.toList (v.resultList f.resultTypes.size) (s.fn H (ds++gs)).results [])
  (hargs:∀ sp:Nat→Bool,(∀ p∈before,sp p.block=true)→DataW.TrodAll enc P W' 0 sp true f.params.toList args.toList (s.fn H (ds++gs)).args pa)
  (hvars:∀ sp:Nat→Bool,(∀ p∈before,sp p.block=true)→DataW.TrodVars enc P W' sp s.vars (s.fn H (ds++gs)).vars pv)
  (hps:before=pa++pv) (hb:Below W.heap.size W W')
  (hok:∀ (j:Nat) (t:TypeId) (r:Value),f.resultTypes[j]?=some t→(v.resultList f.resultTypes.size)[j]?=some r→Value.okWide P W' .any 0 t r) :
  s.post enc P f apart fresh handsOn again W args v W':=by
 have hlt:=hW.lt
 obtain⟨_,_,_,_,_,hz,hn⟩:=id hW
 have hsp:∀ p∈before,(fun b=>decide (b < W.heap.size)) p.block=true:=fun p hp=>by simpa using hlt p hp
 refine⟨ds,gs,before,[],pa,pv,hW,hres _ _ _,hargs _ hsp,hvars _ hsp,World.keptBut_mono (fun p hp=>⟨hp,.inr (List.mem_append.1 (hps ▸ hp))⟩) (hb.frame (·∈before)),fun _=>?_⟩
 refine⟨hok,_,_,([]++pa)++pv,⟨[]++pa,pv,trodAll_append (hargs _ (fun _ _=>rfl)) (hres _ _ _),hvars _ (fun _ _=>rfl),rfl,fun b off hp=>?_,fun ha=>?_⟩,fun p hp _=>by rw[hps]; simpa using hp⟩
 ·have hp':MemPlace.cell b off∈before:=by rw[hps]; simpa using hp
  rw[hb.frozen (p:=⟨b,off,none⟩) (hlt _ hp')]
  exact hz b off hp'
 ·have:=hn ha
  rw[hps] at this
  simpa using this
end Go.Sv
namespace Go.Sv
def z3c.le (k k':z3c):Prop:=∀ t a H v H',k t a H=.ok v H'→k' t a H=.ok v H'
theorem z3p {P:Program} {n:Nat} {ops:Array Oper} {o:Oper} {k k':z3c} (hk:k.le k') {E E':Tr AV} {H H':Heap} (h:(z0l P n ops o).run k E H=.ok E' H'):(z0l P n ops o).run k' E H=.ok E' H':=by
 unfold z0l at h ⊢
 cases hp:putF n o.dst with
 | none=>rw[hp] at h; cases h
 | some p =>
  rw[hp] at h
  dsimp only at h ⊢
  cases hg:(z2w ops o).run E with
  | false=>rw[hg] at h; exact h
  | true =>
   rw[hg] at h
   dsimp only at h ⊢
   cases hr:(z0i P o.op).run E H with
   | no=>rw[hr] at h; cases h
   | val v H2=>rw[hr] at h; exact h
   | call t args =>
    rw[hr] at h
    dsimp only at h ⊢
    cases hc:k t args H with
    | no=>rw[hc] at h; cases h
    | ok v H2=>rw[hc] at h; rw[hk _ _ _ _ _ hc]; exact h
theorem z86 {r:OE} {f:Tr AV→Heap→OE} {E':Tr AV} {H':Heap} (h:(OE.rec .no f r:OE)=.ok E' H'):∃ E1 H1,r=.ok E1 H1∧f E1 H1=.ok E' H':=by
 cases r with
 | no=>cases h
 | ok E1 H1=>exact⟨E1,H1,rfl,h⟩
theorem z9p {P:Program} {n:Nat} {ops:Array Oper} {k k':z3c} (hk:k.le k'):∀ {l:List Oper} {E E':Tr AV} {H H':Heap},(z7t P n ops l).run k E H=.ok E' H'→(z7t P n ops l).run k' E H=.ok E' H'
 | [],_,_,_,_,h=>h
 | o::l,E,E',H,H',h=>by
  simp only[z7t] at h ⊢
  obtain⟨E1,H1,h1,h2⟩:=z86 h
  rw[z3p hk h1]
  exact z9p hk h2
theorem z57 {P:Program} {n:Nat} {ops:Array Oper} {k k':z3c} (hk:k.le k'):∀ {l pend:List DOp} {E E':Tr AV} {H H':Heap},(z4k P n ops l pend).run k E H=.ok E' H'→(z4k P n ops l pend).run k' E H=.ok E' H'
 | [],_,_,_,_,_,h=>h
 | x::l,pend,E,E',H,H',h=>by
  simp only[z4k] at h ⊢
  split at h
  ·rename_i hc
   obtain⟨E1,H1,h1,h2⟩:=z86 h
   dsimp only
   rw[z3p hk h1]
   exact z57 hk h2
  ·rename_i hc
   obtain⟨E1,H1,h1,h2⟩:=z86 h
   dsimp only
   rw[z3p hk h1]
   exact z57 hk h2
  ·rename_i hc
   obtain⟨E1,H1,h1,h2⟩:=z86 h
   obtain⟨h3,h4⟩:=z8o h2
   dsimp only
   rw[z3p hk h1]
   dsimp only
   rw[h3]
   exact z57 hk h4
  ·rename_i hc
   obtain⟨E1,H1,h1,h2⟩:=z86 h
   obtain⟨h3,h4⟩:=z8o h2
   dsimp only
   rw[z3p hk h1]
   dsimp only
   rw[h3]
   exact z57 hk h4
theorem zk3 {P:Program} {n:Nat} {ops:Array Oper} {k k':z3c} (hk:k.le k') {E E':Tr AV} {H H':Heap} (h:(z8u P n ops).run k E H=.ok E' H'):(z8u P n ops).run k' E H=.ok E' H':=by
 unfold z8u at h ⊢
 dsimp only at h ⊢
 split at h
 ·exact z57 hk h
 ·cases h
theorem zan {f g:Tr AV→List Nat→Heap→Res} (hf:∀ E D H x E' D' H',f E D H=.ok x E' D' H'→g E D H=.ok x E' D' H'):∀ {m m':Nat},m≤m'→∀ {E D H x E' D' H'},zgx f m E D H=.ok x E' D' H'→zgx g m' E D H=.ok x E' D' H'
 | 0,_,_,_,_,_,_,_,_,_,h=>by cases h
 | m+1,0,hm,_,_,_,_,_,_,_,_=>by omega
 | m+1,m'+1,hm,E,D,H,x,E',D',H',h=>by
  simp only[zgx] at h ⊢
  split at h
  ·cases h
  ·rename_i y E1 D1 H1 h1
   rw[hf _ _ _ _ _ _ _ h1]
   dsimp only
   split at h
   ·exact zan hf (by omega) h
   ·exact h
theorem z2d {P:Program} {f n:Nat} {k k':z3c} (hk:k.le k') {m m':Nat} (hm:m≤m') {ro:Option Nat}:∀ (c:Code) {E:Tr AV} {D:List Nat} {H:Heap} {x:Ex} {E':Tr AV} {D':List Nat} {H':Heap},
  (z0h P f n c).run k m ro E D H=.ok x E' D' H'→(z0h P f n c).run k' m' ro E D H=.ok x E' D' H':=by
 intro c
 induction c with
 | skip=>intro E D H x E' D' H' h; exact h
 | region id ops draw =>
  intro E D H x E' D' H' h
  simp only[z0h] at h ⊢
  cases draw with
  | true =>
   dsimp only at h ⊢
   split at h
   ·cases h
   ·rename_i E1 H1 h1; rw[zk3 hk h1]; exact h
  | false =>
   dsimp only at h ⊢
   split at h
   ·cases h
   ·rename_i E1 H1 h1; rw[z9p hk h1]; exact h
 | seq a b iha ihb =>
  intro E D H x E' D' H' h
  simp only[z0h] at h ⊢
  cases hr:(z0h P f n a).run k m ro E D H with
  | no=>rw[hr] at h; cases h
  | ok y E1 D1 H1 =>
   rw[hr] at h
   rw[iha hr]
   dsimp only at h ⊢
   cases y with
   | normal=>exact ihb h
   | exit id=>exact h
   | ret=>exact h
 | cond c a b iha ihb =>
  intro E D H x E' D' H' h
  simp only[z0h] at h ⊢
  split at h
  ·split at h
   ·exact iha h
   ·exact ihb h
  ·cases h
 | block id c ih =>
  intro E D H x E' D' H' h
  simp only[z0h] at h ⊢
  split at h
  ·cases h
  ·rename_i y E1 D1 H1 h1; rw[ih h1]; exact h
 | loop c ih =>
  intro E D H x E' D' H' h
  simp only[z0h] at h ⊢
  exact zan (fun E D H x E' D' H' h=>ih h) hm h
 | rangeFunc g ps a b _ _ =>
  intro E D H x E' D' H' h
  simp only[z0h] at h ⊢
  split at h
  ·cases h
  ·split at h
   ·cases h
   ·split at h
    ·split at h
     ·cases h
     ·rename_i v H2 h1
      rw[hk _ _ _ _ _ h1]
      exact h
    ·cases h
 | exit id=>intro E D H x E' D' H' h; exact h
 | scope c ih=>intro E D H x E' D' H' h; exact ih h
 | label l=>intro E D H x E' D' H' h; exact h
 | ret=>intro E D H x E' D' H' h; exact h
 | _=>intro E D H x E' D' H' h; cases h
theorem zoy {P:Program} {f:Nat} {k k':z3c} (hk:k.le k') {m m':Nat} (hm:m≤m') {args:List AV} {H:Heap} {v:AV} {H':Heap} (h:(zgg P f).run k m args H=.ok v H'):(zgg P f).run k' m' args H=.ok v H':=by
 unfold zgg at h ⊢
 cases hf:P.funcs[f]? with
 | none=>rw[hf] at h; cases h
 | some fn =>
  rw[hf] at h
  dsimp only at h ⊢
  cases hb:fn.body with
  | none=>rw[hb] at h; cases h
  | some body =>
   rw[hb] at h
   dsimp only at h ⊢
   by_cases hl:fn.ntmps≤lim
   ·rw[if_pos hl] at h ⊢
    dsimp only at h ⊢
    cases ha:Nat.ble args.length fn.ntmps with
    | false=>rw[ha] at h; cases h
    | true =>
     rw[ha] at h
     dsimp only at h ⊢
     cases hr:(z0h P f fn.ntmps body).run k m none (z0g args 0 .e) [] H with
     | no=>rw[hr] at h; cases h
     | ok x E D H1=>rw[hr] at h; rw[z2d hk hm _ hr]; exact h
   ·rw[if_neg hl] at h; cases h
theorem z36 {P:Program} {O:z3c}:∀ {m m':Nat},m≤m'→z3c.le (z4z P O m) (z4z P O m')
 | 0,_,_=>fun t a H v H' h=>by cases h
 | m+1,0,h=>by omega
 | m+1,m'+1,hm=>by
  have ih:=z36 (P:=P) (O:=O) (show m≤m' by omega)
  intro t a H v H' h
  unfold z4z at h ⊢
  cases t with
  | fn f =>
   dsimp only at h ⊢
   cases ho:O (.fn f) a H with
   | no=>rw[ho] at h; exact zoy ih (by omega) h
   | ok v1 H1=>rw[ho] at h; exact h
  | yield l =>
   dsimp only at h ⊢
   split at h
   ·rename_i f n E ps a' b d hg
    cases hE:zwq ps.toList a n E with
    | none=>rw[hE] at h; cases h
    | some E1 =>
     rw[hE] at h
     dsimp only at h ⊢
     split at h
     ·rename_i E2 H2 h2
      rw[z2d ih (by omega) _ h2]
      dsimp only
      cases hb:zpr l H2 with
      | none=>rw[hb] at h; cases h
      | some H2' =>
       rw[hb] at h
       dsimp only at h ⊢
       cases h3:(z0h P f n b).run (z4z P O m) m (some l) E2 [] H2' with
       | no=>rw[h3] at h; cases h
       | ok x E3 D H3=>rw[h3] at h; rw[z2d ih (by omega) _ h3]; exact h
     ·cases h
   ·cases h
end Go.Sv
namespace Go.Sv
abbrev Env:=Nat→Option AV
noncomputable def upd (ρ:Env) (d:Nat) (a:AV):Env:=fun t=>match Nat.beq t d with
 | true=>some a
 | false=>ρ t
def EnvR (E:Tr AV) (ρ:Env):Prop:=∀ t,t≤lim→getP (z09 t) E=ρ t
inductive Ox where
 | t (i:Nat)
 | c (a:AV)
noncomputable def Ox.ev (ρ:Env):Ox→AV
 | .t i=>(ρ i).getD z23
 | .c a=>a
noncomputable def resO:Operand→Option Ox
 | .tmp t=>if t≤lim then some (.t t) else none
 | .const v=>(absV v).map .c
 | .func f=>some (.c (.fn (.func f) [] []))
 | .global _=>none
theorem z2l {x:Operand} {r:Ox} (h:resO x=some r) {E:Tr AV} {ρ:Env} (hE:EnvR E ρ):(opd x).run E=some (r.ev ρ):=by
 cases x with
 | tmp t =>
  simp only[resO] at h
  split at h
  ·rename_i ht
   cases h
   unfold opd
   dsimp only
   rw[Nat.ble_eq_true_of_le ht]
   dsimp only
   rw[hE t ht]
   simp only[Ox.ev]
   cases ρ t <;> rfl
  ·cases h
 | const v =>
  simp only[resO] at h
  cases hv:absV v with
  | none=>rw[hv] at h; cases h
  | some a=>rw[hv] at h; cases h; unfold opd; dsimp only; rw[hv]; rfl
 | global g=>cases h
 | func f=>cases h; rfl
noncomputable def zhx:List Operand→Option (List Ox)
 | []=>some []
 | x::l=>match resO x with
  | none=>none
  | some r=>match zhx l with
   | none=>none
   | some rs=>some (r::rs)
theorem resOs_ok:∀ {l:List Operand} {rs:List Ox},zhx l=some rs→∀ {E:Tr AV} {ρ:Env},EnvR E ρ→(opds l).run E=some (rs.map (·.ev ρ))
 | [],rs,h,E,ρ,hE=>by cases h; rfl
 | x::l,rs,h,E,ρ,hE=>by
  simp only[zhx] at h
  cases hx:resO x with
  | none=>rw[hx] at h; cases h
  | some r =>
   rw[hx] at h
   dsimp only at h
   cases hl:zhx l with
   | none=>rw[hl] at h; cases h
   | some r2 =>
    rw[hl] at h
    cases h
    unfold opds
    dsimp only
    rw[z2l hx hE,resOs_ok hl hE]
    rfl
noncomputable def zbl:Option Operand→Option (Option Ox)
 | none=>some none
 | some x=>match resO x with
  | none=>none
  | some r=>some (some r)
noncomputable def optR (ρ:Env):Option Ox→Option (Option Nat)
 | none=>some none
 | some r=>match r.ev ρ with
  | .int _ (.ofNat n)=>some (some n)
  | _=>none
theorem z64 {x:Option Operand} {r:Option Ox} (h:zbl x=some r) {E:Tr AV} {ρ:Env} (hE:EnvR E ρ):(optF x).run E=optR ρ r:=by
 cases x with
 | none=>cases h; rfl
 | some x =>
  simp only[zbl] at h
  cases hx:resO x with
  | none=>rw[hx] at h; cases h
  | some q =>
   rw[hx] at h
   cases h
   unfold optF optR
   dsimp only
   rw[z2l hx hE]
   generalize q.ev ρ=a
   split
   ·rename_i n e; cases e; rfl
   ·rename_i e
    split
    ·rename_i k n; exact absurd rfl (e k n)
    ·rfl
inductive ROp where
 | move (x:Ox)
 | pick (c a b:Ox)
 | alloc (l:List AV)
 | box (x:Ox)
 | build (cs:List AV) (ps:List (Nat×Nat×Ox))
 | buildSl (size len:Nat) (cs:List AV) (ps:List (Nat×Nat×Ox))
 | load1 (x:Ox)
 | loadN (n:Nat) (x:Ox)
 | store (n:Nat) (x y:Ox)
 | nilChk (x:Ox)
 | bin (op:BinOp) (g:Bool) (t:TypeId) (x y:Ox)
 | un (op:UnOp) (x:Ox)
 | cvInt (k:IntKind) (x:Ox)
 | cvStr (x:Ox)
 | cvSame (x:Ox)
 | cvBytes (x:Ox)
 | mkIface (t:TypeId) (x:Ox)
 | mkFunc (f:Fn) (first cap:List Ox)
 | mkMap0
 | mkMap1 (x:Ox)
 | mkSl (size:Nat) (z:List AV) (l c:Ox)
 | slStr (x:Ox) (lo hi:Option Ox)
 | slSl (size:Nat) (x:Ox) (lo hi mx:Option Ox)
 | slArr (n size:Nat) (x:Ox) (lo hi mx:Option Ox)
 | fieldAddr (off:Nat) (x:Ox)
 | field (g:Bool) (n off:Nat) (x:Ox)
 | ixAddr (size:Nat) (x i:Ox)
 | ixAddrArr (len size:Nat) (x i:Ox)
 | ixStr (x i:Ox)
 | ixArr (g:Bool) (len size:Nat) (x i:Ox)
 | lookup (d:TypeDesc) (z:AV) (ok:Bool) (x i:Ox)
 | mapUpd (d:TypeDesc) (m k v:Ox)
 | range (x:Ox)
 | next (x:Ox)
 | assert (z:AV) (ok:Bool) (t:TypeId) (x:Ox)
 | extract (i:Nat) (x:Ox)
 | lenStr (x:Ox)
 | lenSl (x:Ox)
 | lenMap (x:Ox)
 | lenArr (n:Nat) (x:Ox)
 | cap (x:Ox)
 | maxi (mx:Bool) (l:List Ox)
 | appZ (size:Nat) (z:List AV) (s x:Ox)
 | appG (size:Nat) (s x:Ox)
 | copy (size:Nat) (d x:Ox)
 | clear (size:Nat) (z:List AV) (x:Ox)
 | delete (d:TypeDesc) (m k:Ox)
 | callV (f:Ox) (args:List Ox)
 | invoke (r:Ox) (name:String) (args:List Ox)
noncomputable def zo5 (ρ:Env) (cs:List AV):List (Nat×Nat×Ox)→Option (List AV)
 | []=>some cs
 | (off,size,x)::ps=>match (x.ev ρ).cells with
  | none=>none
  | some l=>match Nat.beq l.length size with
   | true=>match Nat.ble (Nat.add off size) cs.length with
    | true=>zo5 ρ (layL cs off l) ps
    | false=>none
   | false=>none
noncomputable def evR (P:Program) (ρ:Env) (H:Heap):ROp→OR
 | .move x=>.val (x.ev ρ) H
 | .pick c a b=>match c.ev ρ with
  | .bool true=>.val (a.ev ρ) H
  | .bool false=>.val (b.ev ρ) H
  | _=>.no
 | .alloc l=>z47 H l
 | .box x=>match (x.ev ρ).cells with
  | some l=>z47 H l
  | none=>.no
 | .build cs ps=>match zo5 ρ cs ps with
  | some l=>.val (.agg l) H
  | none=>.no
 | .buildSl size len cs ps=>match zo5 ρ cs ps with
  | some l=>match newObj H l with
   | some (o,H')=>.val (.sl o 0 0 len size (some len)) H'
   | none=>.no
  | none=>.no
 | .load1 x=>match x.ev ρ with
  | .ptr o v i=>match z1n H o v i 1 with
   | some [c]=>.val c H
   | _=>.no
  | _=>.no
 | .loadN n x=>match x.ev ρ with
  | .ptr o v i=>match z1n H o v i n with
   | some l=>.val (.agg l) H
   | none=>.no
  | _=>.no
 | .store n x y=>match x.ev ρ with
  | .ptr o v i=>match (y.ev ρ).cells with
   | some l=>match Nat.beq l.length n with
    | true=>match z3h H o v i l with
     | some H'=>.val z23 H'
     | none=>.no
    | false=>.no
   | none=>.no
  | _=>.no
 | .nilChk x=>z6n H (x.ev ρ)
 | .bin op g t x y=>ret1 H (binA P op g t (x.ev ρ) (y.ev ρ))
 | .un op x=>ret1 H (unA op (x.ev ρ))
 | .cvInt k x=>match x.ev ρ with
  | .int _ n=>.val (.int k (z99 k n)) H
  | _=>.no
 | .cvStr x=>match x.ev ρ with
  | .nilSl=>.val (.str 0 0) H
  | .sl o v i len 1 _=>match z1n H o v i len with
   | some l=>match zah.bytesA l with
    | some n=>.val (.str len n) H
    | none=>.no
   | none=>.no
  | _=>.no
 | .cvSame x=>match x.ev ρ with
  | .str l n=>.val (.str l n) H
  | _=>.no
 | .cvBytes x=>match x.ev ρ with
  | .str len n=>match newObj H ((z3k len n).map fun (b:Nat)=>AV.int .u8 (Int.ofNat b)) with
   | some (o,H')=>.val (.sl o 0 0 len 1 none) H'
   | none=>.no
  | _=>.no
 | .mkIface t x=>.val (.iface t (x.ev ρ)) H
 | .mkFunc f first cap=>.val (.fn f (first.map (·.ev ρ)) (cap.map (·.ev ρ))) H
 | .mkMap0=>z52 H
 | .mkMap1 x=>match x.ev ρ with
  | .int _ _=>z52 H
  | _=>.no
 | .mkSl size z l c=>match l.ev ρ,c.ev ρ with
  | .int .i64 (.ofNat l),.int .i64 (.ofNat c)=>match Nat.ble l c with
   | true=>match Nat.ble c 1048576 with
    | true=>match newObj H (z1y z c) with
     | some (o,H')=>.val (.sl o 0 0 l size (some c)) H'
     | none=>.no
    | false=>.no
   | false=>.no
  | _,_=>.no
 | .slStr x lo hi=>match x.ev ρ,optR ρ lo,optR ρ hi with
  | .str len n,some lo,some hi =>
   let l:=lo.getD 0
   let h:=hi.getD len
   match Nat.ble l h with
   | true=>match Nat.ble h len with
    | true=>.val (.str (Nat.sub h l) (Nat.mod (Nat.div n (Nat.pow 256 l)) (Nat.pow 256 (Nat.sub h l)))) H
    | false=>.no
   | false=>.no
  | _,_,_=>.no
 | .slSl size x lo hi mx=>match x.ev ρ,optR ρ lo,optR ρ hi,optR ρ mx with
  | .sl o v i len esz room,some lo,some hi,some mx=>ret1 H (z39 size lo hi mx o v i len esz room)
  | .nilSl,some lo,some hi,some none=>match Nat.beq (Nat.add (lo.getD 0) (hi.getD 0)) 0 with
   | true=>.val .nilSl H
   | false=>.no
  | .emp,some lo,some hi,some none=>match Nat.beq (Nat.add (lo.getD 0) (hi.getD 0)) 0 with
   | true=>.val .emp H
   | false=>.no
  | _,_,_,_=>.no
 | .slArr n size x lo hi mx=>match x.ev ρ,optR ρ lo,optR ρ hi,optR ρ mx with
  | .ptr o v i,some lo,some hi,some mx=>match H.get o with
   | some (.cells _ clen ver false)=>match Nat.beq v ver with
    | true=>match Nat.ble (Nat.add i (Nat.mul n size)) clen with
     | true=>ret1 H (z39 size lo hi mx o v i n size (some n))
     | false=>.no
    | false=>.no
   | _=>.no
  | _,_,_,_=>.no
 | .fieldAddr off x=>match x.ev ρ with
  | .ptr o v i=>.val (.ptr o v (Nat.add i off)) H
  | _=>.no
 | .field g n off x=>match x.ev ρ with
  | .agg l=>ret1 H (zgj g n l off)
  | _=>.no
 | .ixAddr size x i=>match x.ev ρ,i.ev ρ with
  | .sl o v i len esz _,.int _ (.ofNat n)=>match Nat.blt n len with
   | true=>match Nat.beq esz size with
    | true=>.val (.ptr o v (Nat.add i (Nat.mul n esz))) H
    | false=>.no
   | false=>.no
  | _,_=>.no
 | .ixAddrArr len size x i=>match x.ev ρ,i.ev ρ with
  | .ptr o v i,.int _ (.ofNat n)=>match Nat.blt n len with
   | true=>.val (.ptr o v (Nat.add i (Nat.mul n size))) H
   | false=>.no
  | _,_=>.no
 | .ixStr x i=>match x.ev ρ,i.ev ρ with
  | .str len n,.int _ (.ofNat i)=>match Nat.blt i len with
   | true=>.val (.int .u8 (Int.ofNat (Nat.mod (Nat.div n (Nat.pow 256 i)) 256))) H
   | false=>.no
  | _,_=>.no
 | .ixArr g len size x i=>match x.ev ρ,i.ev ρ with
  | .agg l,.int _ (.ofNat n)=>match Nat.blt n len with
   | true=>ret1 H (zgj g size l (Nat.mul n size))
   | false=>.no
  | _,_=>.no
 | .lookup d z ok x i=>match zss H (x.ev ρ) with
  | none=>.no
  | some es=>match zn8 d (i.ev ρ) es with
   | some (some v)=>.val (if ok then .tup [v,.bool true] else v) H
   | some none=>.val (if ok then .tup [z,.bool false] else z) H
   | none=>.no
 | .mapUpd d m k v=>match m.ev ρ with
  | .map o=>match H.get o with
   | some (.map es clock)=>match za9 d (k.ev ρ) (v.ev ρ) clock es with
    | some (es',true)=>.val z23 (H.put o (.map es' (Nat.add clock 1)))
    | some (es',false)=>.val z23 (H.put o (.map es' clock))
    | none=>.no
   | _=>.no
  | _=>.no
 | .range x=>match x.ev ρ with
  | .str len n=>.val (.ptr H.next 0 0) (H.push (.iter len n 0))
  | _=>.no
 | .next x=>match x.ev ρ with
  | .ptr o 0 0=>match H.get o with
   | some (.iter len n pos)=>match Nat.blt pos len with
    | true=>match Nat.blt (Nat.mod (Nat.div n (Nat.pow 256 pos)) 256) 128 with
     | true=>.val (.tup [.bool true,.int .i64 (Int.ofNat pos),.int .i32 (Int.ofNat (Nat.mod (Nat.div n (Nat.pow 256 pos)) 256))]) (H.put o (.iter len n (Nat.add pos 1)))
     | false=>.no
    | false=>.val (.tup [.bool false]) H
   | _=>.no
  | _=>.no
 | .assert z ok t x=>match x.ev ρ with
  | .nilIf=>if ok then .val (.tup [z,.bool false]) H else .no
  | .iface t' v=>match Nat.beq t' t with
   | true=>.val (if ok then .tup [v,.bool true] else v) H
   | false=>if ok then .val (.tup [z,.bool false]) H else .no
  | _=>.no
 | .extract i x=>match x.ev ρ with
  | .tup l=>ret1 H l[i]?
  | _=>.no
 | .lenStr x=>match x.ev ρ with
  | .str l _=>.val (.int .i64 (Int.ofNat l)) H
  | _=>.no
 | .lenSl x=>match x.ev ρ with
  | .sl _ _ _ len _ _=>.val (.int .i64 (Int.ofNat len)) H
  | .nilSl=>.val (.int .i64 0) H
  | .emp=>.val (.int .i64 0) H
  | _=>.no
 | .lenMap x=>match x.ev ρ with
  | .nilMap=>.val (.int .i64 0) H
  | .map o=>match H.get o with
   | some (.map es _)=>.val (.int .i64 (Int.ofNat es.length)) H
   | _=>.no
  | _=>.no
 | .lenArr n _=>.val (.int .i64 (Int.ofNat n)) H
 | .cap x=>match x.ev ρ with
  | .nilSl=>.val (.int .i64 0) H
  | .sl _ _ _ _ _ (some r)=>.val (.int .i64 (Int.ofNat r)) H
  | _=>.no
 | .maxi mx l=>match (l.map (fun (x:Ox)=>x.ev ρ):List AV) with
  | .int k n::l=>ret1 H (z66 mx (.int k n) l)
  | _=>.no
 | .appZ size z s x=>match x.ev ρ with
  | .int .i64 (.ofNat n)=>match Nat.ble n 1048576 with
   | true=>z3x H size (s.ev ρ) n (z1y z n)
   | false=>.no
  | _=>.no
 | .appG size s x=>match zg9 H size (x.ev ρ) with
  | some (n,l)=>match Nat.ble n 1048576 with
   | true=>z3x H size (s.ev ρ) n l
   | false=>.no
  | none=>.no
 | .copy size d x=>match zg9 H size (x.ev ρ) with
  | some (n,l)=>match d.ev ρ with
   | .nilSl=>.val (.int .i64 0) H
   | .emp=>.val (.int .i64 0) H
   | .sl o v i len esz _=>match Nat.beq esz size with
    | true=>match z3h H o v i (l.take (Nat.mul (minN n len) size)) with
     | some H'=>.val (.int .i64 (Int.ofNat (minN n len))) H'
     | none=>.no
    | false=>.no
   | _=>.no
  | none=>.no
 | .clear size z x=>match x.ev ρ with
  | .nilSl=>.val z23 H
  | .emp=>.val z23 H
  | .sl o v i len esz _=>match Nat.beq esz size with
   | true=>match z3h H o v i (z1y z len) with
    | some H'=>.val z23 H'
    | none=>.no
   | false=>.no
  | _=>.no
 | .delete d m k=>match m.ev ρ with
  | .map o=>match H.get o with
   | some (.map es clock)=>match zgt d (k.ev ρ) es with
    | some es'=>.val z23 (H.put o (.map es' clock))
    | none=>.no
   | _=>.no
  | _=>.no
 | .callV f args=>zfq P H (f.ev ρ) (args.map (·.ev ρ))
 | .invoke r name args=>match r.ev ρ with
  | .iface t v=>match zhh P t name with
   | some f=>match z6g P f with
    | true=>.call (.fn f) (v::args.map (·.ev ρ))
    | false=>.no
   | none=>.no
  | _=>.no
noncomputable def z5l (place:Nat→Option (Nat×Nat)):List (Nat×Operand)→Option (List (Nat×Nat×Ox))
 | []=>some []
 | (i,x)::l=>match place i with
  | none=>none
  | some (o,s)=>match resO x with
   | none=>none
   | some r=>match z5l place l with
    | none=>none
    | some q=>some ((o,s,r)::q)
noncomputable def res1 (x:Operand) (f:Ox→ROp):Option ROp:=match resO x with
 | none=>none
 | some r=>some (f r)
noncomputable def res2 (x y:Operand) (f:Ox→Ox→ROp):Option ROp:=match resO x with
 | none=>none
 | some r=>match resO y with
  | none=>none
  | some q=>some (f r q)
noncomputable def zf9 (size:Nat) (f:Nat→Ox→Option Ox→Option Ox→Option Ox→ROp) (x:Operand) (lo hi mx:Option Operand):Option ROp :=
 match resO x,zbl lo,zbl hi,zbl mx with
 | some r,some a,some b,some c=>some (f size r a b c)
 | _,_,_,_=>none
noncomputable def zoc (P:Program) (c:Call):Option ROp :=
 match c.callee with
 | .builtin b=>match b with
  | .len=>match c.argTypes.toList,c.args.toList with
   | [t],[x]=>match P.underlying t with
    | some .string=>res1 x .lenStr
    | some (.slice _)=>res1 x .lenSl
    | some (.map _ _)=>res1 x .lenMap
    | some (.array n _)=>res1 x (.lenArr n)
    | _=>none
   | _,_=>none
  | .cap=>match c.argTypes.toList,c.args.toList with
   | [t],[x]=>match P.underlying t with
    | some (.slice _)=>res1 x .cap
    | _=>none
   | _,_=>none
  | .max=>match zhx c.args.toList with
   | some l=>some (.maxi true l)
   | none=>none
  | .min=>match zhx c.args.toList with
   | some l=>some (.maxi false l)
   | none=>none
  | .append=>match c.argTypes.toList,c.args.toList with
   | [st,xt],[s,x]=>match P.underlying st,P.underlying xt with
    | some (.slice elem),some d=>match P.info? elem,z5v P elem with
     | some i,some z=>if 0 < i.size∧i.bytes≤65536 then match d with
      | .int _=>res2 s x (.appZ i.size z)
      | .slice _=>res2 s x (.appG i.size)
      | .string=>res2 s x (.appG i.size)
      | _=>none
      else none
     | _,_=>none
    | _,_=>none
   | _,_=>none
  | .copy=>match c.argTypes.toList,c.args.toList with
   | [st,_],[d,x]=>match P.underlying st with
    | some (.slice elem)=>match z1i P elem with
     | none=>none
     | some size=>if 0 < size then res2 d x (.copy size) else none
    | _=>none
   | _,_=>none
  | .clear=>match c.argTypes.toList,c.args.toList with
   | [st],[x]=>match P.underlying st with
    | some (.slice elem)=>match z1i P elem,z5v P elem with
     | some size,some z=>if 0 < size then res1 x (.clear size z) else none
     | _,_=>none
    | _=>none
   | _,_=>none
  | .delete=>match c.argTypes.toList,c.args.toList with
   | [mt,_],[m,k]=>match P.underlying mt with
    | some (.map key _)=>match keyT P key with
     | some d=>res2 m k (.delete d)
     | none=>none
    | _=>none
   | _,_=>none
  | _=>none
 | .value f=>match resO f,zhx c.args.toList with
  | some g,some l=>some (.callV g l)
  | _,_=>none
 | .invoke r name=>match resO r,zhx c.args.toList with
  | some g,some l=>some (.invoke g name l)
  | _,_=>none
noncomputable def z5s (P:Program) (o:Op):Option ROp :=
 match o with
 | .move x | .assign x=>res1 x .move
 | .pick c a b=>match resO c,resO a,resO b with
  | some c,some a,some b=>some (.pick c a b)
  | _,_,_=>none
 | .alloc t=>match z5v P t with
  | some l=>some (.alloc l)
  | none=>none
 | .box _ x=>res1 x .box
 | .build t parts=>match z5v P t with
  | none=>none
  | some cs=>match P.underlying t with
   | some (.struct fields)=>match zb3 P fields.toList with
    | none=>none
    | some pl=>match z5l (pl[·]?) parts.toList with
     | none=>none
     | some ps=>some (.build cs ps)
   | some (.array _ elem)=>match z1i P elem with
    | none=>none
    | some size=>match z5l (fun i=>some (i * size,size)) parts.toList with
     | none=>none
     | some ps=>some (.build cs ps)
   | _=>none
 | .buildSlice t len parts=>match P.underlying t with
  | some (.slice elem)=>match z1i P elem with
   | none=>none
   | some size=>match z5v P elem with
    | none=>none
    | some z=>if len * size≤2 ^ 20∧0 < size then
      match z5l (fun i=>some (i * size,size)) parts.toList with
      | none=>none
      | some ps=>some (.buildSl size len (z1y z len) ps)
     else none
  | _=>none
 | .load t a=>match aggT P t,z1i P t with
  | some true,some n=>res1 a (.loadN n)
  | some false,some _=>res1 a .load1
  | _,_=>none
 | .store t a x=>match z1i P t with
  | some n=>res2 a x (.store n)
  | none=>none
 | .nilCheck x=>res1 x .nilChk
 | .binOp op t x y _=>res2 x y (.bin op (z31 x || z31 y) t)
 | .unOp op _ x=>res1 x (.un op)
 | .convert s d x=>match P.underlying s,P.underlying d with
  | some _,some (.int k)=>res1 x (.cvInt k)
  | some (.slice e),some .string=>match P.underlying e with
   | some (.int .u8)=>res1 x .cvStr
   | _=>none
  | some _,some .string=>res1 x .cvSame
  | some _,some (.slice e)=>match P.underlying e,z1i P e with
   | some (.int .u8),some 1=>res1 x .cvBytes
   | _,_=>none
  | _,_=>none
 | .makeInterface t x=>match P.underlying t with
  | some (.interface _)=>none
  | some _=>res1 x (.mkIface t)
  | none=>none
 | .makeFunc f first cap=>match f with
  | .yield _=>none
  | f=>match zhx first.toList,zhx cap.toList with
   | some a,some b=>some (.mkFunc f a b)
   | _,_=>none
 | .makeMap t r=>match r with
  | none=>some .mkMap0
  | some x=>match P.underlying t with
   | some (.map _ _)=>res1 x .mkMap1
   | _=>none
 | .makeSlice t l c=>match P.underlying t with
  | some (.slice elem)=>match P.info? elem with
   | none=>none
   | some i=>match z5v P elem with
    | none=>none
    | some z=>if 0 < i.size∧i.bytes≤2 ^ 16 then res2 l c (.mkSl i.size z) else none
  | _=>none
 | .slice t x lo hi mx=>match P.underlying t with
  | some .string=>match mx with
   | some _=>none
   | none=>match resO x,zbl lo,zbl hi with
    | some r,some a,some b=>some (.slStr r a b)
    | _,_,_=>none
  | some (.slice elem)=>if mx.isSome && hi.isNone then none else match z1i P elem with
   | none=>none
   | some size=>zf9 size .slSl x lo hi mx
  | some (.array n elem)=>if mx.isSome && hi.isNone then none else match z1i P elem with
   | none=>none
   | some size=>zf9 size (.slArr n) x lo hi mx
  | _=>none
 | .fieldAddr s x f=>match P.underlying s with
  | some (.struct fields)=>match fields[f]? with
   | none=>none
   | some fd=>match z1i P fd.type with
    | none=>none
    | some 0=>none
    | some _=>res1 x (.fieldAddr fd.offset)
  | _=>none
 | .field t x f=>match P.underlying t with
  | some (.struct fields)=>match fields[f]? with
   | none=>none
   | some fd=>match aggT P fd.type,z1i P fd.type with
    | some g,some n=>res1 x (.field g n fd.offset)
    | _,_=>none
  | _=>none
 | .indexAddr t x i=>match P.underlying t with
  | some (.slice elem)=>match z1i P elem with
   | none=>none
   | some size=>res2 x i (.ixAddr size)
  | some (.array len elem)=>match z1i P elem with
   | none=>none
   | some size=>res2 x i (.ixAddrArr len size)
  | _=>none
 | .index t x i=>match P.underlying t with
  | some .string=>res2 x i .ixStr
  | some (.array len elem)=>match aggT P elem,z1i P elem with
   | some g,some size=>res2 x i (.ixArr g len size)
   | _,_=>none
  | _=>none
 | .lookup t x i ok=>match P.underlying t with
  | some (.map key elem)=>match keyT P key,znq P elem with
   | some d,some z=>res2 x i (.lookup d z ok)
   | _,_=>none
  | _=>none
 | .mapUpdate t m k x | .insert t m k x=>match P.underlying t with
  | some (.map key _)=>match keyT P key with
   | some d=>match resO m,resO k,resO x with
    | some m,some k,some x=>some (.mapUpd d m k x)
    | _,_,_=>none
   | none=>none
  | _=>none
 | .range t x=>match P.underlying t with
  | some .string=>res1 x .range
  | _=>none
 | .next it s=>if s then res1 it .next else none
 | .typeAssert x _ t ok=>match P.underlying t with
  | some (.interface _)=>none
  | some _=>match znq P t with
   | none=>none
   | some z=>res1 x (.assert z ok t)
  | none=>none
 | .extract t i=>res1 t (.extract i)
 | .call c=>zoc P c
 | _=>none
end Go.Sv
namespace Go.Sv
section ok
variable {P : Program} {E : Tr AV} {ρ : Env}
theorem z25 {x:Operand} {f:Ox→ROp} {r:ROp} (h:res1 x f=some r):∃ q,resO x=some q∧r=f q:=by
 unfold res1 at h
 cases hx:resO x with
 | none=>rw[hx] at h; cases h
 | some q=>rw[hx] at h; cases h; exact⟨q,rfl,rfl⟩
theorem z4w {x y:Operand} {f:Ox→Ox→ROp} {r:ROp} (h:res2 x y f=some r):∃ q p,resO x=some q∧resO y=some p∧r=f q p:=by
 unfold res2 at h
 cases hx:resO x with
 | none=>rw[hx] at h; cases h
 | some q =>
  rw[hx] at h
  dsimp only at h
  cases hy:resO y with
  | none=>rw[hy] at h; cases h
  | some p=>rw[hy] at h; cases h; exact⟨q,p,rfl,rfl,rfl⟩
theorem z0r (hE:EnvR E ρ) {x:Operand} {q:Ox} (hx:resO x=some q) (f:Heap→AV→OR) (H:Heap):(z14 x f).run E H=f H (q.ev ρ):=by
 show (Option.rec OR.no (fun a=>f H a) ((opd x).run E):OR)=_
 rw[z2l hx hE]
theorem z1h (hE:EnvR E ρ) {x y:Operand} {q p:Ox} (hx:resO x=some q) (hy:resO y=some p) (f:Heap→AV→AV→OR) (H:Heap):(z1z x y f).run E H=f H (q.ev ρ) (p.ev ρ):=by
 show (Option.rec OR.no (fun a=>Option.rec OR.no (fun b=>f H a b) ((opd y).run E)) ((opd x).run E):OR)=_
 rw[z2l hx hE,z2l hy hE]
theorem z9o (hE:EnvR E ρ) {place:Nat→Option (Nat×Nat)}:∀ {l:List (Nat×Operand)} {ps:List (Nat×Nat×Ox)} {cs:List AV},z5l place l=some ps→∃ qs,z80 place l=some qs∧zfz cs qs E=zo5 ρ cs ps
 | [],ps,cs,h=>by cases h; exact⟨[],rfl,rfl⟩
 | (i,x)::l,ps,cs,h=>by
  simp only[z5l] at h
  cases hp:place i with
  | none=>rw[hp] at h; cases h
  | some os =>
   obtain⟨o,s⟩:=os
   rw[hp] at h
   dsimp only at h
   cases hx:resO x with
   | none=>rw[hx] at h; cases h
   | some r =>
    rw[hx] at h
    dsimp only at h
    cases hl:z5l place l with
    | none=>rw[hl] at h; cases h
    | some q =>
     rw[hl] at h
     cases h
     obtain⟨qs,h1,_⟩:=z9o hE (cs:=cs) hl
     refine⟨⟨o,s,opd x⟩::qs,by simp only[z80,hp,h1],?_⟩
     simp only[zfz,zo5]
     rw[z2l hx hE]
     dsimp only
     cases (r.ev ρ).cells with
     | none=>rfl
     | some c =>
      dsimp only
      cases Nat.beq c.length s with
      | false=>rfl
      | true =>
       dsimp only
       cases Nat.ble (Nat.add o s) cs.length with
       | false=>rfl
       | true =>
        dsimp only
        obtain⟨qs',h1',h2'⟩:=z9o hE (cs:=layL cs o c) hl
        rw[h1] at h1'
        cases h1'
        exact h2'
theorem zgo {size:Nat} {f:Nat→Ox→Option Ox→Option Ox→Option Ox→ROp} {x:Operand} {lo hi mx:Option Operand} {r:ROp} (h:zf9 size f x lo hi mx=some r) :
  ∃ q a b c,resO x=some q∧zbl lo=some a∧zbl hi=some b∧zbl mx=some c∧r=f size q a b c:=by
 unfold zf9 at h
 split at h
 ·rename_i q a b c h1 h2 h3 h4
  cases h
  exact⟨q,a,b,c,h1,h2,h3,h4,rfl⟩
 ·cases h
theorem zs8 (hE:EnvR E ρ) {c:Call} {r:ROp} (h:zoc P c=some r) (H:Heap):(zha P c).run E H=evR P ρ H r:=by
 unfold zoc at h
 unfold zha
 split at h
 ·rename_i b hb
  rw[hb]
  dsimp only
  split at h
  ·split at h
   ·rename_i t x ht hx
    rw[ht,hx]
    dsimp only
    unfold lenF
    split at h <;> first
     | (cases h; done)
     | (rename_i hu
        obtain⟨q,h1,rfl⟩:=z25 h
        rw[hu]
        dsimp only
        rw[z0r hE h1]
        rfl)
   ·cases h
  ·split at h
   ·rename_i t x ht hx
    rw[ht,hx]
    dsimp only
    unfold capF
    split at h
    ·rename_i hu
     obtain⟨q,h1,rfl⟩:=z25 h
     rw[hu]
     dsimp only
     rw[z0r hE h1]
     rfl
    ·cases h
   ·cases h
  ·split at h
   ·rename_i l hl
    cases h
    simp only[maxF,evR]
    rw[resOs_ok hl hE]
    generalize (l.map fun (x:Ox)=>x.ev ρ)=vs
    rcases vs with _ | ⟨v,vs⟩
    ·rfl
    ·cases v <;> rfl
   ·cases h
  ·split at h
   ·rename_i l hl
    cases h
    simp only[maxF,evR]
    rw[resOs_ok hl hE]
    generalize (l.map fun (x:Ox)=>x.ev ρ)=vs
    rcases vs with _ | ⟨v,vs⟩
    ·rfl
    ·cases v <;> rfl
   ·cases h
  ·split at h
   ·rename_i st xt s x ht hx
    unfold zfp
    rw[ht,hx]
    dsimp only
    split at h
    ·rename_i elem d hu1 hu2
     rw[hu1,hu2]
     split at h
     ·rename_i i z hi hz
      split at h
      ·rename_i hc
       split at h
       ·rename_i k
        obtain⟨q,p,h1,h2,rfl⟩:=z4w h
        dsimp only
        unfold zjg
        rw[hi,hz]
        dsimp only
        rw[if_pos hc,z1h hE h1 h2]
        rfl
       ·obtain⟨q,p,h1,h2,rfl⟩:=z4w h
        dsimp only
        unfold zab
        rw[hi,hz]
        dsimp only
        rw[if_pos hc,z1h hE h1 h2]
        rfl
       ·obtain⟨q,p,h1,h2,rfl⟩:=z4w h
        dsimp only
        unfold zab
        rw[hi,hz]
        dsimp only
        rw[if_pos hc,z1h hE h1 h2]
        rfl
       ·cases h
      ·cases h
     ·cases h
    ·cases h
   ·cases h
  ·split at h
   ·rename_i st xt d x ht hx
    unfold zvv
    rw[ht,hx]
    dsimp only
    split at h
    ·rename_i elem hu
     rw[hu]
     dsimp only
     split at h
     ·cases h
     ·rename_i size hs
      split at h
      ·rename_i hpos
       obtain⟨q,p,h1,h2,rfl⟩:=z4w h
       rw[hs]
       dsimp only
       rw[if_pos hpos,z1h hE h1 h2]
       rfl
      ·cases h
    ·cases h
   ·cases h
  ·split at h
   ·rename_i st x ht hx
    unfold zlv
    rw[ht,hx]
    dsimp only
    split at h
    ·rename_i elem hu
     rw[hu]
     dsimp only
     split at h
     ·rename_i size z hs hz
      split at h
      ·rename_i hpos
       obtain⟨q,h1,rfl⟩:=z25 h
       rw[hs,hz]
       dsimp only
       rw[if_pos hpos,z0r hE h1]
       rfl
      ·cases h
     ·cases h
    ·cases h
   ·cases h
  ·split at h
   ·rename_i mt xt m k ht hx
    unfold zgr
    rw[ht,hx]
    dsimp only
    split at h
    ·rename_i key e hu
     rw[hu]
     dsimp only
     split at h
     ·rename_i d hd
      obtain⟨q,p,h1,h2,rfl⟩:=z4w h
      rw[hd]
      dsimp only
      rw[z1h hE h1 h2]
      rfl
     ·cases h
    ·cases h
   ·cases h
  ·cases h
 ·rename_i f hf
  rw[hf]
  dsimp only
  split at h
  ·rename_i g l hg hl
   cases h
   rw[z2l hg hE,resOs_ok hl hE]
   simp only[evR]
  ·cases h
 ·rename_i x name hx
  rw[hx]
  dsimp only
  split at h
  ·rename_i g l hg hl
   cases h
   rw[z2l hg hE,resOs_ok hl hE]
   simp only[evR]
   cases g.ev ρ with
   | iface t v =>
    dsimp only
    cases zhh P t name with
    | none=>rfl
    | some f =>
     dsimp only
     cases z6g P f <;> rfl
   | _=>rfl
  ·cases h
end ok
end Go.Sv
namespace Go.Sv
section ok
variable {P : Program} {E : Tr AV} {ρ : Env}
theorem zr1 (hE:EnvR E ρ) {o:Op} {r:ROp} (h:z5s P o=some r) (H:Heap):(z0i P o).run E H=evR P ρ H r:=by
 cases o with
 | move x =>
  obtain⟨q,h1,rfl⟩:=z25 h
  show (z14 x _).run E H=_
  rw[z0r hE h1]; rfl
 | assign x =>
  obtain⟨q,h1,rfl⟩:=z25 h
  show (z14 x _).run E H=_
  rw[z0r hE h1]; rfl
 | pick c a b =>
  simp only[z5s] at h
  split at h
  ·rename_i c' a' b' h1 h2 h3
   cases h
   simp only[z0i]
   rw[z2l h1 hE,z2l h2 hE,z2l h3 hE]
   simp only[evR]
   generalize c'.ev ρ=v
   cases v with
   | bool t=>cases t <;> rfl
   | _=>rfl
  ·cases h
 | alloc t =>
  simp only[z5s] at h
  simp only[z0i]
  cases hz:z5v P t with
  | none=>rw[hz] at h; cases h
  | some l=>rw[hz] at h; cases h; rfl
 | box t x =>
  obtain⟨q,h1,rfl⟩:=z25 h
  show (z14 x _).run E H=_
  rw[z0r hE h1]; rfl
 | build t parts =>
  simp only[z5s] at h
  simp only[z0i,zfs]
  cases hz:z5v P t with
  | none=>rw[hz] at h; cases h
  | some cs =>
   rw[hz] at h
   dsimp only at h ⊢
   split at h
   ·rename_i fields hu
    rw[hu]
    dsimp only
    cases hf:zb3 P fields.toList with
    | none=>rw[hf] at h; cases h
    | some pl =>
     rw[hf] at h
     dsimp only at h ⊢
     cases hp:z5l (pl[·]?) parts.toList with
     | none=>rw[hp] at h; cases h
     | some ps =>
      rw[hp] at h
      cases h
      obtain⟨qs,h1,h2⟩:=z9o hE (cs:=cs) hp
      rw[h1]
      dsimp only
      rw[h2]
      rfl
   ·rename_i n elem hu
    rw[hu]
    dsimp only
    cases hs:z1i P elem with
    | none=>rw[hs] at h; cases h
    | some size =>
     rw[hs] at h
     dsimp only at h ⊢
     cases hp:z5l (fun i=>some (i * size,size)) parts.toList with
     | none=>rw[hp] at h; cases h
     | some ps =>
      rw[hp] at h
      cases h
      obtain⟨qs,h1,h2⟩:=z9o hE (cs:=cs) hp
      rw[h1]
      dsimp only
      rw[h2]
      rfl
   ·cases h
 | buildSlice t len parts =>
  simp only[z5s] at h
  simp only[z0i,z3n]
  split at h
  ·rename_i elem hu
   rw[hu]
   dsimp only
   cases hs:z1i P elem with
   | none=>rw[hs] at h; cases h
   | some size =>
    rw[hs] at h
    dsimp only at h ⊢
    cases hz:z5v P elem with
    | none=>rw[hz] at h; cases h
    | some z =>
     rw[hz] at h
     dsimp only at h ⊢
     split at h
     ·rename_i hc
      rw[if_pos hc]
      cases hp:z5l (fun i=>some (i * size,size)) parts.toList with
      | none=>rw[hp] at h; cases h
      | some ps =>
       rw[hp] at h
       cases h
       obtain⟨qs,h1,h2⟩:=z9o hE (cs:=z1y z len) hp
       rw[h1]
       dsimp only
       rw[h2]
       rfl
     ·cases h
  ·cases h
 | load t a =>
  simp only[z5s] at h
  simp only[z0i,zp8]
  split at h
  ·rename_i n h1 h2
   obtain⟨q,h3,rfl⟩:=z25 h
   rw[h1,h2]
   dsimp only
   rw[z0r hE h3]; rfl
  ·rename_i n h1 h2
   obtain⟨q,h3,rfl⟩:=z25 h
   rw[h1,h2]
   dsimp only
   rw[z0r hE h3]; rfl
  ·cases h
 | store t a x =>
  simp only[z5s] at h
  simp only[z0i,zmc]
  cases hs:z1i P t with
  | none=>rw[hs] at h; cases h
  | some n =>
   rw[hs] at h
   obtain⟨q,p,h1,h2,rfl⟩:=z4w h
   dsimp only
   rw[z1h hE h1 h2]; rfl
 | nilCheck x =>
  obtain⟨q,h1,rfl⟩:=z25 h
  show (z14 x _).run E H=_
  rw[z0r hE h1]; rfl
 | binOp op t x y yt =>
  obtain⟨q,p,h1,h2,rfl⟩:=z4w h
  simp only[z0i]
  rw[z1h hE h1 h2]; rfl
 | unOp op t x =>
  obtain⟨q,h1,rfl⟩:=z25 h
  show (z14 x _).run E H=_
  rw[z0r hE h1]; rfl
 | convert s d x =>
  simp only[z5s] at h
  simp only[z0i]
  unfold zah
  split at h
  ·rename_i d1 k h1 h2
   obtain⟨q,h3,rfl⟩:=z25 h
   rw[h1,h2]
   dsimp only
   rw[z0r hE h3]; rfl
  ·rename_i e h1 h2
   rw[h1,h2]
   dsimp only
   split at h
   ·rename_i hu
    rw[hu]
    dsimp only
    obtain⟨q,h3,rfl⟩:=z25 h
    rw[z0r hE h3]; rfl
   ·cases h
  ·rename_i d1 hne h1 h2
   obtain⟨q,h3,rfl⟩:=z25 h
   rw[h1,h2]
   cases d1 with
   | slice e=>exact absurd rfl (hne e)
   | _=>dsimp only; rw[z0r hE h3]; rfl
  ·rename_i d1 e h1 h2
   rw[h1,h2]
   dsimp only
   split at h
   ·rename_i k1 k2
    obtain⟨q,h3,rfl⟩:=z25 h
    rw[k1,k2]
    exact (z0r hE h3 _ _).trans rfl
   ·cases h
  ·cases h
 | makeInterface t x =>
  simp only[z5s] at h
  simp only[z0i,z8y]
  cases hu:P.underlying t with
  | none=>rw[hu] at h; cases h
  | some d =>
   rw[hu] at h
   cases d with
   | interface ms=>cases h
   | _=>obtain⟨q,h1,rfl⟩:=z25 h; dsimp only; rw[z0r hE h1]; rfl
 | makeFunc f first cap =>
  simp only[z5s] at h
  cases f with
  | yield l=>cases h
  | _ =>
   dsimp only at h
   split at h
   ·rename_i a b h1 h2
    cases h
    simp only[z0i,zbv]
    rw[resOs_ok h1 hE,resOs_ok h2 hE]
    rfl
   ·cases h
 | makeMap t r =>
  simp only[z5s] at h
  simp only[z0i,zef]
  cases r with
  | none=>cases h; rfl
  | some x =>
   dsimp only at h ⊢
   split at h
   ·rename_i k e hu
    obtain⟨q,h1,rfl⟩:=z25 h
    rw[hu]
    dsimp only
    rw[z0r hE h1]; rfl
   ·cases h
 | makeSlice t l c =>
  simp only[z5s] at h
  simp only[z0i,z7f]
  split at h
  ·rename_i elem hu
   rw[hu]
   dsimp only
   cases hi:P.info? elem with
   | none=>rw[hi] at h; cases h
   | some i =>
    rw[hi] at h
    dsimp only at h ⊢
    cases hz:z5v P elem with
    | none=>rw[hz] at h; cases h
    | some z =>
     rw[hz] at h
     dsimp only at h ⊢
     split at h
     ·rename_i hc
      obtain⟨q,p,h1,h2,rfl⟩:=z4w h
      rw[if_pos hc,z1h hE h1 h2]; rfl
     ·cases h
  ·cases h
 | slice t x lo hi mx =>
  simp only[z5s] at h
  simp only[z0i,zcs]
  split at h
  ·rename_i hu
   rw[hu]
   dsimp only
   cases mx with
   | some m=>cases h
   | none =>
    dsimp only at h ⊢
    split at h
    ·rename_i q a b h1 h2 h3
     cases h
     rw[z2l h1 hE,z64 h2 hE,z64 h3 hE]
     simp only[evR]
     cases q.ev ρ with
     | str len n =>
      cases optR ρ a with
      | none=>rfl
      | some a'=>cases optR ρ b <;> rfl
     | _=>rfl
    ·cases h
  ·rename_i elem hu
   rw[hu]
   dsimp only
   split at h
   ·cases h
   ·rename_i hc
    rw[if_neg hc]
    cases hs:z1i P elem with
    | none=>rw[hs] at h; cases h
    | some size =>
     rw[hs] at h
     obtain⟨q,a,b,c,h1,h2,h3,h4,rfl⟩:=zgo h
     dsimp only
     rw[z2l h1 hE,z64 h2 hE,z64 h3 hE,z64 h4 hE]
     simp only[evR]
     generalize q.ev ρ=v
     generalize optR ρ a=a'
     generalize optR ρ b=b'
     generalize optR ρ c=c'
     cases v <;> cases a' <;> cases b' <;> cases c' <;> try rfl
     all_goals (rename_i z; cases z <;> rfl)
  ·rename_i n elem hu
   rw[hu]
   dsimp only
   split at h
   ·cases h
   ·rename_i hc
    rw[if_neg hc]
    cases hs:z1i P elem with
    | none=>rw[hs] at h; cases h
    | some size =>
     rw[hs] at h
     obtain⟨q,a,b,c,h1,h2,h3,h4,rfl⟩:=zgo h
     dsimp only
     rw[z2l h1 hE,z64 h2 hE,z64 h3 hE,z64 h4 hE]
     simp only[evR]
     generalize q.ev ρ=v
     generalize optR ρ a=a'
     generalize optR ρ b=b'
     generalize optR ρ c=c'
     cases v <;> cases a' <;> cases b' <;> cases c' <;> rfl
  ·cases h
 | fieldAddr s x f =>
  simp only[z5s] at h
  simp only[z0i,z5a]
  split at h
  ·rename_i fields hu
   rw[hu]
   dsimp only
   cases hf:fields[f]? with
   | none=>rw[hf] at h; cases h
   | some fd =>
    rw[hf] at h
    dsimp only at h ⊢
    split at h
    ·cases h
    ·cases h
    ·rename_i n hn hs
     obtain⟨q,h1,rfl⟩:=z25 h
     rw[hs]
     cases n with
     | zero=>exact absurd rfl hn
     | succ n=>exact (z0r hE h1 _ _).trans rfl
  ·cases h
 | field t x f =>
  simp only[z5s] at h
  simp only[z0i,zg4]
  split at h
  ·rename_i fields hu
   rw[hu]
   dsimp only
   cases hf:fields[f]? with
   | none=>rw[hf] at h; cases h
   | some fd =>
    rw[hf] at h
    dsimp only at h ⊢
    split at h
    ·rename_i g n h1 h2
     obtain⟨q,h3,rfl⟩:=z25 h
     rw[h1,h2]
     dsimp only
     rw[z0r hE h3]; rfl
    ·cases h
  ·cases h
 | indexAddr t x i =>
  simp only[z5s] at h
  simp only[z0i,z54]
  split at h
  ·rename_i elem hu
   rw[hu]
   dsimp only
   cases hs:z1i P elem with
   | none=>rw[hs] at h; cases h
   | some size =>
    rw[hs] at h
    obtain⟨q,p,h1,h2,rfl⟩:=z4w h
    dsimp only
    rw[z1h hE h1 h2]; rfl
  ·rename_i len elem hu
   rw[hu]
   dsimp only
   cases hs:z1i P elem with
   | none=>rw[hs] at h; cases h
   | some size =>
    rw[hs] at h
    obtain⟨q,p,h1,h2,rfl⟩:=z4w h
    dsimp only
    rw[z1h hE h1 h2]; rfl
  ·cases h
 | index t x i =>
  simp only[z5s] at h
  simp only[z0i,zfo]
  split at h
  ·rename_i hu
   obtain⟨q,p,h1,h2,rfl⟩:=z4w h
   rw[hu]
   dsimp only
   rw[z1h hE h1 h2]; rfl
  ·rename_i len elem hu
   rw[hu]
   dsimp only
   split at h
   ·rename_i g size hg hs
    obtain⟨q,p,h1,h2,rfl⟩:=z4w h
    rw[hg,hs]
    dsimp only
    rw[z1h hE h1 h2]; rfl
   ·cases h
  ·cases h
 | lookup t x i ok =>
  simp only[z5s] at h
  simp only[z0i,zbx]
  split at h
  ·rename_i key elem hu
   rw[hu]
   dsimp only
   split at h
   ·rename_i d z hd hz
    obtain⟨q,p,h1,h2,rfl⟩:=z4w h
    rw[hd,hz]
    dsimp only
    rw[z1h hE h1 h2]; rfl
   ·cases h
  ·cases h
 | mapUpdate t m k x =>
  simp only[z5s] at h
  simp only[z0i,z55]
  split at h
  ·rename_i key elem hu
   rw[hu]
   dsimp only
   split at h
   ·rename_i d hd
    rw[hd]
    dsimp only
    split at h
    ·rename_i a b c h1 h2 h3
     cases h
     rw[z2l h1 hE,z2l h2 hE,z2l h3 hE]
     simp only[evR]
     cases a.ev ρ <;> rfl
    ·cases h
   ·cases h
  ·cases h
 | insert t m k x =>
  simp only[z5s] at h
  simp only[z0i,z55]
  split at h
  ·rename_i key elem hu
   rw[hu]
   dsimp only
   split at h
   ·rename_i d hd
    rw[hd]
    dsimp only
    split at h
    ·rename_i a b c h1 h2 h3
     cases h
     rw[z2l h1 hE,z2l h2 hE,z2l h3 hE]
     simp only[evR]
     cases a.ev ρ <;> rfl
    ·cases h
   ·cases h
  ·cases h
 | range t x =>
  simp only[z5s] at h
  simp only[z0i,rangeF]
  split at h
  ·rename_i hu
   obtain⟨q,h1,rfl⟩:=z25 h
   rw[hu]
   dsimp only
   rw[z0r hE h1]; rfl
  ·cases h
 | next it s =>
  simp only[z5s] at h
  simp only[z0i,zwy]
  cases s with
  | false=>cases h
  | true =>
   obtain⟨q,h1,rfl⟩:=z25 h
   rw[if_pos rfl,z0r hE h1]; rfl
 | typeAssert x xt t ok =>
  simp only[z5s] at h
  simp only[z0i,zc1]
  cases hu:P.underlying t with
  | none=>rw[hu] at h; cases h
  | some d =>
   rw[hu] at h
   cases d with
   | interface ms=>cases h
   | _ =>
    dsimp only at h ⊢
    cases hz:znq P t with
    | none=>rw[hz] at h; cases h
    | some z=>rw[hz] at h; obtain⟨q,h1,rfl⟩:=z25 h; dsimp only; rw[z0r hE h1]; rfl
 | extract t i =>
  obtain⟨q,h1,rfl⟩:=z25 h
  show (z14 t _).run E H=_
  rw[z0r hE h1]; rfl
 | call c=>exact zs8 hE h H
 | _=>cases h
end ok
end Go.Sv
namespace Go.Sv
open Go.RowKit (Below)
noncomputable def zl9 (P:Program) (f:Nat):Bool:=match P.funcs[f]? with
 | some fn=>match fn.params.toList with
  | []=>match fn.resultTypes.toList with
   | [t]=>match P.underlying t with
    | some .bool=>true
    | _=>false
   | _=>false
  | _::_=>false
 | none=>false
def zav (P:Program) (f:Nat):Prop :=
 ∀ (w:World) cs,∃ w' fr,Below w.heap.size w w'∧Steps P (lone (Frame.enter P f #[] .normal) cs w) (lone fr cs w')∧fr.fn=f∧fr.leaving P w' (.returned (.bool true))
theorem zrn {P:Program} (hm:P.follows .mixedOrders=true) {m f:Nat} (h:runA P noO m f=true):zav P f:=by
 intro w cs
 unfold runA at h
 split at h
 ·rename_i H' hr
  obtain⟨C',w',v',fr,h1,h2,h3,h4,h5,h6⟩:=zby hm (zvp P) m w _ _ w (.fn f) [] [] _ _ (Rel.start w) .nil hr cs
  cases h3
  exact⟨w',fr,h2.low,h4,h5,h6⟩
 ·cases h
theorem Rel.below {w0:World} {C:CM} {H:Heap} {w w':World} (h:Rel w0 C H w) (hb:Below w.heap.size w w'):Rel w0 C H w':=by
 have hsz:w0.heap.size≤w.heap.size:=h.low.size
 exact⟨h.nx,h.low.trans (hb.mono hsz),h.fresh,fun o v L hL=>Nat.lt_of_lt_of_le (h.lt o v L hL) hb.size,h.excl,
  fun o ob ho hg=>(h.obj o ob ho hg).frame (CM.le_refl C) (fun _ _ hL=>hL) (fun v L hL=>hb.block _ (h.lt o v L hL)),h.top⟩
open Classical in
noncomputable def OL (P:Program):z3c:=fun t args H=>match t,args with
 | .fn f,[]=>if zl9 P f=true∧zav P f then .ok (.bool true) H else .no
 | _,_=>.no
theorem OL_no {P:Program} {f:Nat} (h:zl9 P f=false) (args:List AV) (H:Heap):OL P (.fn f) args H=.no:=by
 unfold OL
 split
 ·rename_i g e
  cases e
  rw[if_neg (by rw[h]; simp)]
 ·rfl
theorem OL_yes {P:Program} {f:Nat} (h:zl9 P f=true) (h2:zav P f) (H:Heap):OL P (.fn f) [] H=.ok (.bool true) H:=by
 unfold OL
 exact if_pos ⟨h,h2⟩
theorem OL_sound (P:Program):z3j P (OL P):=by
 intro w0 C H w t args vs v H' hR hV hc
 unfold OL at hc
 split at hc
 ·rename_i f
  split at hc
  ·rename_i hl
   cases hc
   cases hV
   intro cs
   obtain⟨w',fr,h1,h2,h3,h4⟩:=hl.2 w cs
   exact⟨C,w',.bool true,fr,CM.le_refl C,hR.below h1,.bool true,h2,h3,h4⟩
  ·cases hc
 ·cases hc
end Go.Sv
namespace Go.Sv
inductive LV where
 | any
 | bool (b:Bool)
 | u (x:UInt64)
 | b (x:UInt8)
 | i (n:Int)
 | int (k:IntKind) (n:Int)
 | str (l:List UInt8)
 | nilPtr
 | ptr (p i:Nat)
 | dptr (p k i:Nat)
 | cptr (l:List LV) (i:Nat)
 | nilSl
 | dy (p k:Nat)
 | vw (p k lo len:Nat)
 | vf (p k len:Nat)
 | lst (l:List LV) (len esz:Nat)
 | nilMap
 | map (p:Nat)
 | nilFn
 | fn (f:Fn) (first cap:List LV)
 | nilIf
 | iface (t:TypeId) (v:LV)
 | agg (l:List LV)
 | tup (l:List LV)
 deriving Inhabited
abbrev LEnv:=List (Nat×LV)
def lk0:LEnv→Nat→LV
 | [],_=>.any
 | (d,v)::l,t=>if t=d then v else lk0 l t
theorem zsu {α:Type} (f:α):∃ g:α,g=f:=⟨f,rfl⟩
noncomputable def hide {α:Type} (f:α):α:=Classical.choose (zsu f)
theorem z2k {α:Type} (f:α):hide f=f:=Classical.choose_spec (zsu f)
noncomputable def lk:LEnv→Nat→LV:=hide lk0
theorem lk_nil (t:Nat):lk [] t=.any:=by unfold lk; rw[z2k]; rfl
theorem zh3 (d:Nat) (v:LV) (l:LEnv) (t:Nat):lk ((d,v)::l) t=if t=d then v else lk l t:=by unfold lk; rw[z2k]; rfl
inductive LObj where
 | dead (st:Nat)
 | cells (l:List LV) (st:Nat)
 | dyn (l:List LV) (len esz ver st:Nat)
 | map (es:List (LV×LV×Nat)) (clock st:Nat)
 | iter (l:List UInt8) (pos:Nat)
 | loop (s:LoopState) (pend:Option Code) (f n:Nat) (ρ:LEnv) (ps:Array Tmp) (a b:Code) (d:Nat)
 | defd (op:Bool)
abbrev z03:=List LObj
def LObj.live:LObj→Bool
 | .dead _=>false
 | _=>true
def LObj.stp:LObj→Bool
 | .cells _ _=>true
 | .dyn _ _ _ _ _=>true
 | .map _ _ _=>true
 | _=>false
def LObj.st:LObj→Nat
 | .cells _ st=>st
 | .dyn _ _ _ _ st=>st
 | .map _ _ st=>st
 | .dead st=>st
 | _=>0
def LV.cells:LV→Option (List LV)
 | .any=>none
 | .agg cs=>some cs
 | .tup _=>none
 | v=>some [v]
mutual
noncomputable def toA:LV→AV
 | .bool b=>.bool b
 | .u x=>.int .u64 (Int.ofNat x.toNat)
 | .b x=>.int .u8 (Int.ofNat x.toNat)
 | .i n=>.int .i64 n
 | .int k n=>.int k n
 | .str l=>.str l.length (z1g l)
 | .nilPtr=>.nilPtr
 | .nilSl=>.nilSl
 | .nilMap=>.nilMap
 | .nilFn=>.nilFn
 | .fn f _ _=>.fn f [] []
 | .nilIf=>.nilIf
 | .agg l=>.agg (toAs l)
 | .tup l=>.tup (toAs l)
 | _=>.tup []
noncomputable def toAs:List LV→List AV
 | []=>[]
 | v::l=>toA v::toAs l
end
def LV.scal:LV→Bool
 | .bool _ | .u _ | .b _ | .i _ | .int _ _ | .str _ | .nilPtr | .nilSl | .nilMap | .nilFn | .nilIf=>true
 | _=>false
def LV.cst:LV→Bool
 | .fn (.func _) [] []=>true
 | .agg l=>l.all LV.scal
 | .tup []=>true
 | v=>v.scal
structure Cx where
 hd:List (Nat×AV)
 Fz:Nat→Prop
 H:Heap
def zju:AV→Bool
 | .nilSl=>true
 | .emp=>true
 | .sl _ _ _ _ _ _=>true
 | _=>false
def tied (lo:Nat) (h a:AV):Prop:=lo=0→match a with
 | .sl _ _ _ _ _ room'=>match h with
  | .sl _ _ _ len _ room=>room'=room∨∃ r,room'=some r∧r≤len
  | _=>True
 | _=>True
mutual
inductive AR (c:Cx):LV→AV→Prop where
 | any (a:AV):AR c .any a
 | bool (b:Bool):AR c (.bool b) (.bool b)
 | u (x:UInt64):AR c (.u x) (.int .u64 (Int.ofNat x.toNat))
 | b (x:UInt8):AR c (.b x) (.int .u8 (Int.ofNat x.toNat))
 | i (n:Int):AR c (.i n) (.int .i64 n)
 | int (k:IntKind) (n:Int):AR c (.int k n) (.int k n)
 | str (l:List UInt8):AR c (.str l) (.str l.length (z1g l))
 | nilPtr:AR c .nilPtr .nilPtr
 | ptr {p i o:Nat} (h:c.hd[p]?=some (0,.ptr o 0 0)):AR c (.ptr p i) (.ptr o 0 i)
 | dptr {p k i k' o v j:Nat} {h:AV} (hp:c.hd[p]?=some (k',h)) (hk:k≤k') (ha:k=k'→j=i∧∃ len esz room,h=.sl o v 0 len esz room):AR c (.dptr p k i) (.ptr o v j)
 | cptr {l:List LV} {i o v j:Nat} {l':List AV} (hf:c.Fz o) (hr:z1n c.H o v j l.length=some l') (hl:ARs c l l'):AR c (.cptr l i) (.ptr o v (j+i))
 | nilSl:AR c .nilSl .nilSl
 | dy {p k k':Nat} {h a:AV} (hp:c.hd[p]?=some (k',h)) (hk:k≤k') (ha:k=k'→a=h) (hs:zju a=true):AR c (.dy p k) a
 | vw {p k lo len k':Nat} {h a:AV} (hp:c.hd[p]?=some (k',h)) (hk:k≤k') (ha:k=k'→(len=0∧(a=.nilSl∨(a=.emp∧lo≠0)))∨∃ o v len' esz room room',h=.sl o v 0 len' esz room∧a=.sl o v (lo * esz) len esz room'∧∀ r,room'=some r→len≤r) (hs:zju a=true) (hz:k=k'→tied lo h a):AR c (.vw p k lo len) a
 | vf {p k len k':Nat} {h a:AV} (hp:c.hd[p]?=some (k',h)) (hk:k≤k') (ha:k=k'→∃ o v len' esz room,h=.sl o v 0 len' esz room∧a=.sl o v 0 len esz (some len)) (hs:zju a=true):AR c (.vf p k len) a
 | lst {l:List LV} {len esz o v i:Nat} {room:Option Nat} {l':List AV} (hf:c.Fz o) (hrm:∀ r,room=some r→len≤r) (hlen:l.length=len * esz) (hr:z1n c.H o v i (len * esz)=some l') (hl:ARs c l l'):AR c (.lst l len esz) (.sl o v i len esz room)
 | lstNil {esz:Nat}:AR c (.lst [] 0 esz) .nilSl
 | lstEmp {esz:Nat}:AR c (.lst [] 0 esz) .emp
 | nilMap:AR c .nilMap .nilMap
 | map {p o:Nat} (h:c.hd[p]?=some (0,.map o)):AR c (.map p) (.map o)
 | nilFn:AR c .nilFn .nilFn
 | fn {f:Nat} {l r:List LV} {l' r':List AV} (hl:ARs c l l') (hr:ARs c r r'):AR c (.fn (.func f) l r) (.fn (.func f) l' r')
 | yield {p o:Nat} (h:c.hd[p]?=some (0,.ptr o 0 0)):AR c (.fn (.yield p) [] []) (.fn (.yield o) [] [])
 | nilIf:AR c .nilIf .nilIf
 | iface {t:TypeId} {v:LV} {a:AV} (h:AR c v a):AR c (.iface t v) (.iface t a)
 | agg {l:List LV} {l':List AV} (h:ARs c l l'):AR c (.agg l) (.agg l')
 | tup {l:List LV} {l':List AV} (h:ARs c l l'):AR c (.tup l) (.tup l')
inductive ARs (c:Cx):List LV→List AV→Prop where
 | nil:ARs c [] []
 | cons {v:LV} {a:AV} {l:List LV} {r:List AV} (h:AR c v a) (hs:ARs c l r):ARs c (v::l) (a::r)
end
inductive MRs (c:Cx):List (LV×LV×Nat)→List (AV×AV×Nat)→Prop where
 | nil:MRs c [] []
 | cons {k v:LV} {a b:AV} {n:Nat} {l:List (LV×LV×Nat)} {r:List (AV×AV×Nat)} (hk:AR c k a) (hv:AR c v b) (h:MRs c l r):MRs c ((k,v,n)::l) ((a,b,n)::r)
def EnvL (c:Cx) (ρ:LEnv) (E:Tr AV):Prop:=∀ t,AR c (lk ρ t) ((getP (z09 t) E).getD z23)
def ObR (c:Cx) (k:Nat) (h:AV):LObj→Prop
 | .dead _=>True
 | .cells l _=>k=0∧∃ o t l',h=.ptr o 0 0∧c.H.get o=some (.cells t l.length 0 false)∧z15 t 0 l.length=some l'∧ARs c l l'
 | .dyn l len esz ver _=>k=ver∧l.length=len * esz∧((h=.nilSl∧len=0)∨∃ o v room t clen l',h=.sl o v 0 len esz room∧c.H.get o=some (.cells t clen v false)∧len * esz≤clen ∧
   z15 t 0 (len * esz)=some l'∧ARs c l l'∧(∀ r,room=some r→clen=r * esz∧len≤r)∧(room=none→clen=len * esz))
 | .map es ck _=>k=0∧∃ o es',h=.map o∧c.H.get o=some (.map es' ck)∧MRs c es es'
 | .iter l pos=>k=0∧∃ o,h=.ptr o 0 0∧c.H.get o=some (.iter l.length (z1g l) pos)
 | .loop s pend f n ρ ps a b d=>k=0∧∃ o od E,h=.ptr o 0 0∧c.hd[d]?=some (0,.ptr od 0 0)∧c.H.get o=some (.loop s pend f n E ps a b od)∧EnvL c ρ E
 | .defd op=>k=0∧∃ o,h=.ptr o 0 0∧c.H.get o=some (.defd op)
def Own (c:Cx) (G:z03) (o:Nat):Prop:=∃ (p:Nat) (ob:LObj) (k:Nat) (h:AV),G[p]?=some ob∧ob.live=true∧c.hd[p]?=some (k,h)∧idOf h=some o
structure HSim (c:Cx) (G:z03):Prop where
 len:c.hd.length=G.length
 fz:∀ o,c.Fz o→o < c.H.next
 lt:∀ o,Own c G o→o < c.H.next
 sep:∀ o,Own c G o→¬ c.Fz o
 obj:∀ (p:Nat) (ob:LObj) (k:Nat) (h:AV),G[p]?=some ob→c.hd[p]?=some (k,h)→ObR c k h ob
 excl:∀ (p q:Nat) (ob ob':LObj) (k:Nat) (h:AV) (k':Nat) (h':AV) (o:Nat),G[p]?=some ob→G[q]?=some ob'→ob.live=true→ob'.live=true→c.hd[p]?=some (k,h)→c.hd[q]?=some (k',h')→idOf h=some o→idOf h'=some o→p=q
def fixd:AV→Bool
 | .ptr _ _ _=>true
 | .map _=>true
 | _=>false
structure CxLe (c c':Cx):Prop where
 hd:∀ (p k:Nat) (h:AV),c.hd[p]?=some (k,h)→∃ (k':Nat) (h':AV),c'.hd[p]?=some (k',h')∧k≤k'∧(k=k'→h=h')∧(fixd h=true→k=k')
 fz:∀ o,c.Fz o→c'.Fz o∧c'.H.get o=c.H.get o
structure Step (c:Cx) (G:z03) (c':Cx) (G':z03):Prop where
 le:CxLe c c'
 nx:c.H.next≤c'.H.next
 frame:∀ o,o < c.H.next→¬ Own c G o→c'.H.get o=c.H.get o
 new:∀ o,Own c' G' o→Own c G o∨c.H.next≤o
 fznew:∀ o,c'.Fz o→c.Fz o∨Own c G o∨c.H.next≤o
 mono:∀ (p:Nat) (ob ob':LObj),G[p]?=some ob→G'[p]?=some ob'→ob.st≤ob'.st
 st:∀ (p:Nat) (ob ob':LObj) (k:Nat) (h:AV) (o:Nat),G[p]?=some ob→G'[p]?=some ob'→c.hd[p]?=some (k,h)→idOf h=some o→ob.stp=true→ob.st=ob'.st→ob'=ob∧c'.H.get o=c.H.get o∧c'.hd[p]?=c.hd[p]?
inductive Lx where
 | t (i:Nat)
 | c (v:LV)
noncomputable def Lx.ev (ρ:LEnv):Lx→LV
 | .t i=>lk ρ i
 | .c v=>v
noncomputable def Lx.r:Lx→Ox
 | .t i=>.t i
 | .c v=>.c (toA v)
def Lx.ok:Lx→Bool
 | .t _=>true
 | .c v=>v.cst
inductive LOp where
 | move (x:Lx)
 | pick (c a b:Lx)
 | alloc (l:List LV)
 | box (x:Lx)
 | build (cs:List LV) (ps:List (Nat×Nat×Lx))
 | buildSl (size len:Nat) (cs:List LV) (ps:List (Nat×Nat×Lx))
 | load1 (x:Lx)
 | loadN (n:Nat) (x:Lx)
 | store (n:Nat) (x y:Lx)
 | nilChk (x:Lx)
 | bin (op:BinOp) (g:Bool) (t:TypeId) (x y:Lx)
 | un (op:UnOp) (x:Lx)
 | cvInt (k:IntKind) (x:Lx)
 | cvStr (x:Lx)
 | cvSame (x:Lx)
 | cvBytes (x:Lx)
 | mkFunc (f:Nat) (first cap:List Lx)
 | mkSl (size:Nat) (z:List LV) (l c:Lx)
 | slStr (x:Lx) (lo hi:Option Lx)
 | slSl (size:Nat) (x:Lx) (lo hi:Option Lx)
 | slSl3 (size:Nat) (x:Lx) (lo hi:Option Lx) (mx:Lx)
 | fieldAddr (off:Nat) (x:Lx)
 | field (g:Bool) (n off:Nat) (x:Lx)
 | ixAddr (size:Nat) (x i:Lx)
 | ixStr (x i:Lx)
 | extract (i:Nat) (x:Lx)
 | lenStr (x:Lx)
 | lenSl (x:Lx)
 | maxi (mx:Bool) (x y:Lx)
 | max3 (mx:Bool) (x y z:Lx)
 | ixAddrArr (len size:Nat) (x i:Lx)
 | ixArr (g:Bool) (len size:Nat) (x i:Lx)
 | lenArr (n:Nat) (x:Lx)
 | appZ (size:Nat) (z:List LV) (s x:Lx)
 | appG (size:Nat) (s x:Lx)
 | copy (size:Nat) (d x:Lx)
 | clear (size:Nat) (z:List LV) (x:Lx)
 | mkMap0
 | mkMap1 (x:Lx)
 | lookup (d:TypeDesc) (z:LV) (ok:Bool) (x i:Lx)
 | mapUpd (d:TypeDesc) (m k v:Lx)
 | lenMap (x:Lx)
 | slArr (n size:Nat) (x:Lx) (lo hi:Option Lx)
 | callV (f:Lx) (args:List Lx)
noncomputable def rps:List (Nat×Nat×Lx)→List (Nat×Nat×Ox)
 | []=>[]
 | (a,b,x)::l=>(a,b,x.r)::rps l
noncomputable def rxs:List Lx→List Ox
 | []=>[]
 | x::l=>x.r::rxs l
noncomputable def LOp.r:LOp→ROp
 | .move x=>.move x.r
 | .pick c a b=>.pick c.r a.r b.r
 | .alloc l=>.alloc (toAs l)
 | .box x=>.box x.r
 | .build cs ps=>.build (toAs cs) (rps ps)
 | .buildSl s n cs ps=>.buildSl s n (toAs cs) (rps ps)
 | .load1 x=>.load1 x.r
 | .loadN n x=>.loadN n x.r
 | .store n x y=>.store n x.r y.r
 | .nilChk x=>.nilChk x.r
 | .bin op g t x y=>.bin op g t x.r y.r
 | .un op x=>.un op x.r
 | .cvInt k x=>.cvInt k x.r
 | .cvStr x=>.cvStr x.r
 | .cvSame x=>.cvSame x.r
 | .cvBytes x=>.cvBytes x.r
 | .mkFunc f a b=>.mkFunc (.func f) (rxs a) (rxs b)
 | .mkSl s z l c=>.mkSl s (toAs z) l.r c.r
 | .slStr x lo hi=>.slStr x.r (lo.map Lx.r) (hi.map Lx.r)
 | .slSl s x lo hi=>.slSl s x.r (lo.map Lx.r) (hi.map Lx.r) none
 | .slSl3 s x lo hi mx=>.slSl s x.r (lo.map Lx.r) (hi.map Lx.r) (some mx.r)
 | .fieldAddr o x=>.fieldAddr o x.r
 | .field g n o x=>.field g n o x.r
 | .ixAddr s x i=>.ixAddr s x.r i.r
 | .ixStr x i=>.ixStr x.r i.r
 | .extract i x=>.extract i x.r
 | .lenStr x=>.lenStr x.r
 | .lenSl x=>.lenSl x.r
 | .maxi m x y=>.maxi m [x.r,y.r]
 | .max3 m x y z=>.maxi m [x.r,y.r,z.r]
 | .ixAddrArr l s x i=>.ixAddrArr l s x.r i.r
 | .ixArr g l s x i=>.ixArr g l s x.r i.r
 | .lenArr n x=>.lenArr n x.r
 | .appZ s z a x=>.appZ s (toAs z) a.r x.r
 | .appG s a x=>.appG s a.r x.r
 | .copy s d x=>.copy s d.r x.r
 | .clear s z x=>.clear s (toAs z) x.r
 | .mkMap0=>.mkMap0
 | .mkMap1 x=>.mkMap1 x.r
 | .lookup d z ok x i=>.lookup d (toA z) ok x.r i.r
 | .mapUpd d m k v=>.mapUpd d m.r k.r v.r
 | .lenMap x=>.lenMap x.r
 | .slArr n s x lo hi=>.slArr n s x.r (lo.map Lx.r) (hi.map Lx.r) none
 | .callV f l=>.callV f.r (rxs l)
def inI (n:Int):Prop:=-9223372036854775808≤n∧n < 9223372036854775808
noncomputable def addU:UInt64→UInt64→UInt64:=hide fun a b=>a+b
noncomputable def subU:UInt64→UInt64→UInt64:=hide fun a b=>a - b
noncomputable def mulU:UInt64→UInt64→UInt64:=hide fun a b=>a * b
noncomputable def divU:UInt64→UInt64→UInt64:=hide fun a b=>a / b
noncomputable def modU:UInt64→UInt64→UInt64:=hide fun a b=>a % b
noncomputable def andU:UInt64→UInt64→UInt64:=hide fun a b=>a &&& b
noncomputable def orU:UInt64→UInt64→UInt64:=hide fun a b=>a ||| b
noncomputable def xorU:UInt64→UInt64→UInt64:=hide fun a b=>a ^^^ b
noncomputable def notU:UInt64→UInt64:=hide fun a => ~~~a
noncomputable def shlU:UInt64→Nat→UInt64:=hide fun a s=>UInt64.ofNat (a.toNat * 2 ^ s)
noncomputable def shrU:UInt64→Nat→UInt64:=hide fun a s=>UInt64.ofNat (a.toNat / 2 ^ s)
noncomputable def addB:UInt8→UInt8→UInt8:=hide fun a b=>a+b
noncomputable def subB:UInt8→UInt8→UInt8:=hide fun a b=>a - b
noncomputable def andB:UInt8→UInt8→UInt8:=hide fun a b=>a &&& b
noncomputable def orB:UInt8→UInt8→UInt8:=hide fun a b=>a ||| b
noncomputable def iU:Int→UInt64:=hide fun a=>UInt64.ofInt a
noncomputable def bU:UInt8→UInt64:=hide fun a=>UInt64.ofNat a.toNat
noncomputable def uB:UInt64→UInt8:=hide fun a=>UInt8.ofNat a.toNat
noncomputable def iB:Int→UInt8:=hide fun a=>UInt8.ofInt a
theorem z2h (a b:UInt64):addU a b=a+b:=by unfold addU; rw[z2k]
theorem z4n (a b:UInt64):subU a b=a - b:=by unfold subU; rw[z2k]
theorem zfh (a b:UInt64):mulU a b=a * b:=by unfold mulU; rw[z2k]
theorem divU_eq (a b:UInt64):divU a b=a / b:=by unfold divU; rw[z2k]
theorem zfg (a b:UInt64):modU a b=a % b:=by unfold modU; rw[z2k]
theorem z65 (a b:UInt64):andU a b=a &&& b:=by unfold andU; rw[z2k]
theorem z9d (a b:UInt64):orU a b=a ||| b:=by unfold orU; rw[z2k]
theorem z7q (a b:UInt64):xorU a b=a ^^^ b:=by unfold xorU; rw[z2k]
theorem ztt (a:UInt64):notU a = ~~~a:=by unfold notU; rw[z2k]
theorem z75 (a:UInt64) (s:Nat):shlU a s=UInt64.ofNat (a.toNat * 2 ^ s):=by unfold shlU; rw[z2k]
theorem z6a (a:UInt64) (s:Nat):shrU a s=UInt64.ofNat (a.toNat / 2 ^ s):=by unfold shrU; rw[z2k]
theorem addB_eq (a b:UInt8):addB a b=a+b:=by unfold addB; rw[z2k]
theorem subB_eq (a b:UInt8):subB a b=a - b:=by unfold subB; rw[z2k]
theorem andB_eq (a b:UInt8):andB a b=a &&& b:=by unfold andB; rw[z2k]
theorem orB_eq (a b:UInt8):orB a b=a ||| b:=by unfold orB; rw[z2k]
theorem iU_eq (a:Int):iU a=UInt64.ofInt a:=by unfold iU; rw[z2k]
theorem bU_eq (a:UInt8):bU a=UInt64.ofNat a.toNat:=by unfold bU; rw[z2k]
theorem uB_eq (a:UInt64):uB a=UInt8.ofNat a.toNat:=by unfold uB; rw[z2k]
theorem iB_eq (a:Int):iB a=UInt8.ofInt a:=by unfold iB; rw[z2k]
noncomputable def uuL (op:BinOp) (a b:UInt64) (K:LV→Prop):Prop:=match op with
 | .add=>K (.u (addU a b))
 | .sub=>K (.u (subU a b))
 | .mul=>K (.u (mulU a b))
 | .quo=>b≠0∧K (.u (divU a b))
 | .rem=>b≠0∧K (.u (modU a b))
 | .and=>K (.u (andU a b))
 | .or=>K (.u (orU a b))
 | .xor=>K (.u (xorU a b))
 | .andNot=>K (.u (andU a (notU b)))
 | .shl=>K (.u (shlU a b.toNat))
 | .shr=>K (.u (shrU a b.toNat))
 | .eql=>K (.bool (decide (a=b)))
 | .neq=>K (.bool (decide (a≠b)))
 | .lss=>K (.bool (decide (a < b)))
 | .leq=>K (.bool (decide (a≤b)))
 | .gtr=>K (.bool (decide (b < a)))
 | .geq=>K (.bool (decide (b≤a)))
noncomputable def bbL (op:BinOp) (a b:UInt8) (K:LV→Prop):Prop:=match op with
 | .add=>K (.b (addB a b))
 | .sub=>K (.b (subB a b))
 | .and=>K (.b (andB a b))
 | .or=>K (.b (orB a b))
 | .eql=>K (.bool (decide (a=b)))
 | .neq=>K (.bool (decide (a≠b)))
 | .lss=>K (.bool (decide (a < b)))
 | .leq=>K (.bool (decide (a≤b)))
 | .gtr=>K (.bool (decide (b < a)))
 | .geq=>K (.bool (decide (b≤a)))
 | _=>False
def iiL (op:BinOp) (a b:Int) (K:LV→Prop):Prop:=match op with
 | .add=>inI (a+b)∧K (.i (a+b))
 | .sub=>inI (a - b)∧K (.i (a - b))
 | .mul=>inI (a * b)∧K (.i (a * b))
 | .quo=>b≠0∧inI (a.tdiv b)∧K (.i (a.tdiv b))
 | .rem=>b≠0∧K (.i (a.tmod b))
 | .shl=>0≤a∧0≤b∧b≤64∧inI (a * 2 ^ b.toNat)∧K (.i (a * 2 ^ b.toNat))
 | .shr=>0≤a∧0≤b∧b≤64∧K (.i (a / 2 ^ b.toNat))
 | .and=>0≤a∧a < 9223372036854775808∧0≤b∧b < 9223372036854775808∧K (.i (a.toNat &&& b.toNat:Nat))
 | .or=>0≤a∧a < 9223372036854775808∧0≤b∧b < 9223372036854775808∧K (.i (a.toNat ||| b.toNat:Nat))
 | .eql=>K (.bool (decide (a=b)))
 | .neq=>K (.bool (decide (a≠b)))
 | .lss=>K (.bool (decide (a < b)))
 | .leq=>K (.bool (decide (a≤b)))
 | .gtr=>K (.bool (decide (b < a)))
 | .geq=>K (.bool (decide (b≤a)))
 | _=>False
def kkL (op:BinOp) (a b:Int) (K:LV→Prop):Prop:=match op with
 | .eql=>K (.bool (decide (a=b)))
 | .neq=>K (.bool (decide (a≠b)))
 | .lss=>K (.bool (decide (a < b)))
 | .leq=>K (.bool (decide (a≤b)))
 | .gtr=>K (.bool (decide (b < a)))
 | .geq=>K (.bool (decide (b≤a)))
 | _=>False
def ssL (op:BinOp) (a b:List UInt8) (K:LV→Prop):Prop:=match op with
 | .add=>a.length+b.length≤1000000000∧K (.str (a++b))
 | .eql=>K (.bool (decide (a=b)))
 | .neq=>K (.bool (decide (a≠b)))
 | _=>False
noncomputable def nilL (P:Program) (op:BinOp) (g:Bool) (t:TypeId) (a b:AV) (r:Bool) (K:LV→Prop):Prop:=match op with
 | .eql=>eqA P g t a b=some r∧K (.bool r)
 | .neq=>eqA P g t a b=some r∧K (.bool (!r))
 | _=>False
noncomputable def aggL (P:Program) (op:BinOp) (g:Bool) (t:TypeId) (l r:List LV) (K:LV→Prop):Prop:=match op with
 | .eql=>∃ b,l.all LV.scal=true∧r.all LV.scal=true∧eqA P g t (.agg (toAs l)) (.agg (toAs r))=some b∧K (.bool b)
 | .neq=>∃ b,l.all LV.scal=true∧r.all LV.scal=true∧eqA P g t (.agg (toAs l)) (.agg (toAs r))=some b∧K (.bool (!b))
 | _=>False
def lstN (op:BinOp) (len:Nat) (K:LV→Prop):Prop:=match op with
 | .eql=>K (.bool false)∧(len=0→K (.bool true))
 | .neq=>K (.bool true)∧(len=0→K (.bool false))
 | _=>False
noncomputable def binL (P:Program) (op:BinOp) (g:Bool) (t:TypeId) (x y:LV) (K:LV→Prop):Prop:=match x,y with
 | .u a,.u b=>uuL op a b K
 | .i a,.i b=>iiL op a b K
 | .b a,.b b=>bbL op a b K
 | .bool a,.bool b=>match op with
  | .eql=>eqA P g t (.bool a) (.bool b)=some (a==b)∧K (.bool (a==b))
  | .neq=>eqA P g t (.bool a) (.bool b)=some (a==b)∧K (.bool (!(a==b)))
  | _=>False
 | .u a,.i s=>match op with
  | .shl=>0≤s∧K (.u (shlU a s.toNat))
  | .shr=>0≤s∧K (.u (shrU a s.toNat))
  | _=>False
 | .i a,.u s=>match op with
  | .shl=>0≤a∧s.toNat≤64∧inI (a * 2 ^ s.toNat)∧K (.i (a * 2 ^ s.toNat))
  | .shr=>0≤a∧s.toNat≤64∧K (.i (a / 2 ^ s.toNat))
  | _=>False
 | .int k a,.int k' b=>k=k'∧kkL op a b K
 | .str a,.str b=>ssL op a b K
 | .nilPtr,.nilPtr=>nilL P op g t .nilPtr .nilPtr true K
 | .ptr _ _,.nilPtr=>nilL P op g t (.ptr 0 0 0) .nilPtr false K
 | .nilSl,.nilSl=>nilL P op g t .nilSl .nilSl true K
 | .lst _ len _,.nilSl=>eqA P g t .nilSl .nilSl=some true∧lstN op len K
 | .agg l,.agg r=>aggL P op g t l r K
 | _,_=>False
noncomputable def unL (op:UnOp) (x:LV) (K:LV→Prop):Prop:=match op,x with
 | .not,.bool b=>K (.bool (!b))
 | .neg,.u a=>K (.u (subU 0 a))
 | .neg,.i a=>inI (-a)∧K (.i (-a))
 | .xor,.u a=>K (.u (notU a))
 | _,_=>False
def w32 (n:Int):Int:=(n+2147483648) % 4294967296 - 2147483648
noncomputable def cvL (k:IntKind) (x:LV) (K:LV→Prop):Prop:=match k,x with
 | .u64,.u a=>K (.u a)
 | .u64,.i a=>K (.u (iU a))
 | .u64,.b a=>K (.u (bU a))
 | .i64,.u a=>a.toNat < 9223372036854775808∧K (.i a.toNat)
 | .i64,.i a=>inI a∧K (.i a)
 | .i64,.b a=>K (.i a.toNat)
 | .u8,.u a=>K (.b (uB a))
 | .u8,.i a=>K (.b (iB a))
 | .u8,.b a=>K (.b a)
 | .u8,.int _ a=>K (.b (iB a))
 | .i32,.i a=>K (.int .i32 (w32 a))
 | .i64,.int _ a=>inI a∧K (.i a)
 | _,_=>False
def brL (t:Bool) (A B:Prop):Prop:=(t=true→A)∧(t=false→B)
def brV (v:LV) (A B:Prop):Prop:=match v with
 | .bool t=>brL t A B
 | _=>False
def zcg (G:z03) (x:LV) (n:Nat) (K:List LV→Prop):Prop:=match x with
 | .ptr p i=>match G[p]? with
  | some (.cells l _)=>i+n≤l.length∧K ((l.drop i).take n)
  | _=>False
 | .dptr p k i=>match G[p]? with
  | some (.dyn l _ _ ver _)=>k=ver∧i+n≤l.length∧K ((l.drop i).take n)
  | _=>False
 | .cptr l i=>i+n≤l.length∧K ((l.drop i).take n)
 | _=>False
def nthL (l:List LV) (i:Nat) (K:LV→Prop):Prop:=∃ v,l[i]?=some v∧K v
def zco (G:z03) (x:LV) (K:LV→Prop):Prop:=match x with
 | .ptr p i=>match G[p]? with
  | some (.cells l _)=>nthL l i K
  | _=>False
 | .dptr p k i=>match G[p]? with
  | some (.dyn l _ _ ver _)=>k=ver∧nthL l i K
  | _=>False
 | .cptr l i=>nthL l i K
 | _=>False
def z0w (l:List LV) (i:Nat) (r:List LV):List LV:=l.take i++r++l.drop (i+r.length)
def z4s (G:z03) (x:LV) (r:List LV) (K:z03→Prop):Prop:=match x with
 | .ptr p i=>match G[p]? with
  | some (.cells l st)=>i+r.length≤l.length∧K (G.set p (.cells (z0w l i r) (st+1)))
  | _=>False
 | .dptr p k i=>match G[p]? with
  | some (.dyn l len esz ver st)=>k=ver∧i+r.length≤l.length∧K (G.set p (.dyn (z0w l i r) len esz ver (st+1)))
  | _=>False
 | _=>False
def repL (z:List LV):Nat→List LV
 | 0=>[]
 | n+1=>z++repL z n
def rowL (G:z03) (size:Nat) (x:LV) (K:Nat→List LV→Prop):Prop:=match x with
 | .nilSl=>K 0 []
 | .dy p k=>match G[p]? with
  | some (.dyn l len esz ver _)=>k=ver∧esz=size∧K len l
  | _=>False
 | .vw p k lo len=>match G[p]? with
  | some (.dyn l _ esz ver _)=>k=ver∧esz=size∧lo * esz+len * esz≤l.length∧K len ((l.drop (lo * esz)).take (len * esz))
  | _=>False
 | .lst l len esz=>esz=size∧K len l
 | .str l=>size=1∧K l.length (l.map LV.b)
 | _=>False
def bytL (G:z03) (x:LV) (K:List LV→Prop):Prop:=match x with
 | .nilSl=>K []
 | .dy p k=>match G[p]? with
  | some (.dyn l _ esz ver _)=>k=ver∧esz=1∧K l
  | _=>False
 | .lst l len esz=>esz=1∧len≠0∧K l
 | _=>False
def lenL (G:z03) (x:LV) (K:Nat→Prop):Prop:=match x with
 | .nilSl=>K 0
 | .dy p k=>match G[p]? with
  | some (.dyn _ len _ ver _)=>k=ver∧K len
  | _=>False
 | .vw p k _ len=>match G[p]? with
  | some (.dyn _ _ _ ver _)=>k=ver∧K len
  | _=>False
 | .lst _ len _=>K len
 | _=>False
def appL (G:z03) (size:Nat) (s:LV) (n:Nat) (new:List LV) (K:LV→z03→Prop):Prop:=match s with
 | .nilSl=>K (.dy G.length 0) (G++[.dyn new n size 0 0])
 | .dy p k=>match G[p]? with
  | some (.dyn l len esz ver st)=>k=ver∧(esz=size∧0 < esz)∧len≤1000000000∧K (.dy p (ver+1)) (G.set p (.dyn (l++new) (len+n) esz (ver+1) (st+1)))
  | _=>False
 | .vw p k lo len=>match G[p]? with
  | some (.dyn l len0 esz ver st)=>k=ver∧(esz=size∧lo=0∧0 < n)∧len≤1000000000∧if (len+n) * esz≤l.length then K (.vw p k 0 (len+n)) (G.set p (.dyn (z0w l (len * esz) new) len0 esz ver (st+1)))∧K (.dy G.length 0) (G++[.dyn (l.take (len * esz)++new) (len+n) size 0 0]) else len=len0∧0 < esz∧K (.dy p (ver+1)) (G.set p (.dyn (l++new) (len+n) esz (ver+1) (st+1)))∧K (.dy G.length 0) (G++[.dyn (l++new) (len+n) size 0 0])
  | _=>False
 | .vf p k len=>match G[p]? with
  | some (.dyn l _ esz ver _)=>k=ver∧(esz=size∧0 < n)∧len≤1000000000∧len * esz≤l.length∧K (.dy G.length 0) (G++[.dyn (l.take (len * esz)++new) (len+n) size 0 0])
  | _=>False
 | _=>False
noncomputable def zk4 (ρ:LEnv) (cs:List LV):List (Nat×Nat×Lx)→Option (List LV)
 | []=>some cs
 | (off,size,x)::ps=>match (x.ev ρ).cells with
  | none=>none
  | some l=>if l.length=size∧off+size≤cs.length then zk4 ρ (z0w cs off l) ps else none
def keyL (d:TypeDesc) (a b:LV):Option Bool:=match d,a,b with
 | .int _,.i a,.i b=>some (decide (a=b))
 | .int _,.u a,.u b=>some (decide (a=b))
 | .string,.str a,.str b=>some (decide (a=b))
 | _,_,_=>none
def zjw (d:TypeDesc) (k:LV) (K:Option LV→Prop):List (LV×LV×Nat)→Prop
 | []=>K none
 | (k',v,_)::l=>match keyL d k k' with
  | some b=>brL b (K (some v)) (zjw d k K l)
  | none=>False
def putL (d:TypeDesc) (k v:LV) (clock:Nat) (K:List (LV×LV×Nat)→Bool→Prop):List (LV×LV×Nat)→Prop
 | []=>K [(k,v,clock)] true
 | (k',v',n)::l=>match keyL d k k' with
  | some b=>brL b (K ((k,v,n)::l) false) (putL d k v clock (fun r new=>K ((k',v',n)::r) new) l)
  | none=>False
def mapL (G:z03) (x:LV) (K:List (LV×LV×Nat)→Prop):Prop:=match x with
 | .nilMap=>K []
 | .map p=>match G[p]? with
  | some (.map es _ _)=>K es
  | _=>False
 | _=>False
def zut (z:LV) (ok:Bool) (K:LV→Prop):Option LV→Prop
 | some v=>K (match ok with | true=>.tup [v,.bool true] | false=>v)
 | none=>K (match ok with | true=>.tup [z,.bool false] | false=>z)
def setK (G:z03) (p ck st:Nat) (K:z03→Prop):List (LV×LV×Nat)→Bool→Prop:=fun es new=>K (G.set p (.map es (match new with | true=>ck+1 | false=>ck) (st+1)))
def znc (G:z03) (d:TypeDesc) (m k v:LV) (K:z03→Prop):Prop:=match m with
 | .map p=>match G[p]? with
  | some (.map es ck st)=>putL d k v ck (setK G p ck st K) es
  | _=>False
 | _=>False
noncomputable def bndL (ρ:LEnv) (d:Nat) (x:Option Lx) (K:Nat→Prop):Prop:=match x with
 | none=>K d
 | some x=>match x.ev ρ with
  | .i n=>0≤n∧K n.toNat
  | .u n=>K n.toNat
  | _=>False
def fullV (p k a b m:Nat):LV:=match decide (a=0∧b=m∧0 < b) with
 | true=>.vf p k b
 | false=>.vw p k a (b - a)
def ixO (G:z03) (size:Nat) (x:LV) (n:Int) (K:LV→Prop):Prop:=match x with
 | .dy p k=>match G[p]? with
  | some (.dyn _ len esz ver _)=>k=ver∧esz=size∧0≤n∧n < len∧K (.dptr p k (n.toNat * size))
  | _=>False
 | .vw p k lo len=>match G[p]? with
  | some (.dyn _ _ esz ver _)=>k=ver∧esz=size∧0≤n∧n < len∧K (.dptr p k ((lo+n.toNat) * size))
  | _=>False
 | .lst l len esz=>esz=size∧0≤n∧n < len∧K (.cptr l (n.toNat * size))
 | _=>False
inductive LTgt where
 | fn (f:Nat)
 | yield (p:Nat)
def TgtR (c:Cx):LTgt→Tgt→Prop
 | .fn f,.fn g=>f=g
 | .yield p,.yield o=>c.hd[p]?=some (0,.ptr o 0 0)
 | _,_=>False
def tgtOk (P:Program):LTgt→Prop
 | .fn f=>z6g P f=true∧zdv P f=false
 | .yield _=>True
def z0k (P:Program) (t:LTgt) (args:List LV) (G:z03) (K:LV→z03→Prop):Prop :=
 tgtOk P t∧∀ c t1 args1,HSim c G→TgtR c t t1→ARs c args args1→∃ m v1 H',z4z P (OL P) m t1 args1 c.H=.ok v1 H'∧∃ c' v G',c'.H=H'∧HSim c' G'∧Step c G c' G'∧AR c' v v1∧K v G'
noncomputable def OpL (P:Program) (ρ:LEnv) (G:z03) (o:LOp) (K:LV→z03→Prop):Prop:=match o with
 | .move x=>K (x.ev ρ) G
 | .pick c a b=>match c.ev ρ with
  | .bool t=>match a.ev ρ,b.ev ρ with
   | .bool x,.bool y=>K (.bool (match t with | true=>x | false=>y)) G
   | x,y=>brL t (K x G) (K y G)
  | _=>False
 | .alloc l=>K (.ptr G.length 0) (G++[.cells l 0])
 | .box x=>match (x.ev ρ).cells with
  | some l=>K (.ptr G.length 0) (G++[.cells l 0])
  | none=>False
 | .build cs ps=>match zk4 ρ cs ps with
  | some l=>K (.agg l) G
  | none=>False
 | .buildSl size len cs ps=>match zk4 ρ cs ps with
  | some l=>l.length=len * size∧K (.dy G.length 0) (G++[.dyn l len size 0 0])
  | none=>False
 | .load1 x=>zco G (x.ev ρ) fun v=>K v G
 | .loadN n x=>zcg G (x.ev ρ) n fun l=>K (.agg l) G
 | .store n x y=>match (y.ev ρ).cells with
  | some l=>l.length=n∧z4s G (x.ev ρ) l fun G'=>K (.tup []) G'
  | none=>False
 | .nilChk x=>match x.ev ρ with
  | .ptr p i=>K (.ptr p i) G
  | .dptr p k i=>K (.dptr p k i) G
  | .cptr l i=>K (.cptr l i) G
  | .fn (.func f) a b=>K (.fn (.func f) a b) G
  | _=>False
 | .bin op g t x y=>binL P op g t (x.ev ρ) (y.ev ρ) fun v=>K v G
 | .un op x=>unL op (x.ev ρ) fun v=>K v G
 | .cvInt k x=>cvL k (x.ev ρ) fun v=>K v G
 | .cvStr x=>bytL G (x.ev ρ) fun l=>∃ bs:List UInt8,l=bs.map LV.b∧K (.str bs) G
 | .cvSame x=>match x.ev ρ with
  | .str l=>K (.str l) G
  | _=>False
 | .cvBytes x=>match x.ev ρ with
  | .str l=>K (.dy G.length 0) (G++[.dyn (l.map LV.b) l.length 1 0 0])
  | _=>False
 | .mkFunc f a b=>K (.fn (.func f) (a.map (·.ev ρ)) (b.map (·.ev ρ))) G
 | .mkSl size z l c=>match l.ev ρ,c.ev ρ with
  | .i l,.i c=>l=c∧0≤l∧l≤1048576∧z.length=size∧K (.dy G.length 0) (G++[.dyn (repL z l.toNat) l.toNat size 0 0])
  | _,_=>False
 | .slStr x lo hi=>match x.ev ρ with
  | .str l=>bndL ρ 0 lo fun a=>bndL ρ l.length hi fun b=>a≤b∧b≤l.length∧K (.str ((l.drop a).take (b - a))) G
  | _=>False
 | .slSl size x lo hi=>match x.ev ρ with
  | .nilSl=>bndL ρ 0 lo fun a=>bndL ρ 0 hi fun b=>a=0∧b=0∧K .nilSl G
  | .dy p k=>match G[p]? with
   | some (.dyn _ len esz ver _)=>k=ver∧esz=size∧bndL ρ 0 lo fun a=>bndL ρ len hi fun b=>a≤b∧b≤len∧K (.vw p k a (b - a)) G
   | _=>False
  | .vw p k l0 len=>match G[p]? with
   | some (.dyn _ _ esz ver _)=>k=ver∧esz=size∧bndL ρ 0 lo fun a=>bndL ρ len hi fun b=>a≤b∧b≤len∧K (.vw p k (l0+a) (b - a)) G
   | _=>False
  | .lst l len esz=>esz=size∧bndL ρ 0 lo fun a=>bndL ρ len hi fun b=>a≤b∧b≤len∧K (.lst ((l.drop (a * esz)).take ((b - a) * esz)) (b - a) esz) G
  | _=>False
 | .slSl3 size x lo hi mx=>match x.ev ρ with
  | .dy p k=>match G[p]? with
   | some (.dyn _ len esz ver _)=>k=ver∧esz=size∧bndL ρ 0 lo fun a=>bndL ρ len hi fun b=>bndL ρ 0 (some mx) fun m=>0 < len∧a≤b∧b≤m∧m≤len∧K (fullV p k a b m) G
   | _=>False
  | .lst l len esz=>esz=size∧bndL ρ 0 lo fun a=>bndL ρ len hi fun b=>bndL ρ 0 (some mx) fun m=>0 < len∧a≤b∧b≤m∧m≤len∧K (.lst ((l.drop (a * esz)).take ((b - a) * esz)) (b - a) esz) G
  | _=>False
 | .fieldAddr off x=>match x.ev ρ with
  | .ptr p i=>K (.ptr p (i+off)) G
  | .dptr p k i=>K (.dptr p k (i+off)) G
  | .cptr l i=>K (.cptr l (i+off)) G
  | _=>False
 | .field g n off x=>match x.ev ρ with
  | .agg l=>match g with
   | true=>off+n≤l.length∧K (.agg ((l.drop off).take n)) G
   | false=>nthL l off fun v=>K v G
  | _=>False
 | .ixAddr size x i=>match i.ev ρ with
  | .i n=>ixO G size (x.ev ρ) n fun v=>K v G
  | .u n=>ixO G size (x.ev ρ) (n.toNat:Int) fun v=>K v G
  | _=>False
 | .ixStr x i=>match x.ev ρ,i.ev ρ with
  | .str l,.i n=>0≤n∧n < l.length∧K (.b (l.getD n.toNat 0)) G
  | .str l,.u n=>n.toNat < l.length∧K (.b (l.getD n.toNat 0)) G
  | .str l,.b n=>n.toNat < l.length∧K (.b (l.getD n.toNat 0)) G
  | _,_=>False
 | .extract i x=>match x.ev ρ with
  | .tup l=>nthL l i fun v=>K v G
  | _=>False
 | .lenStr x=>match x.ev ρ with
  | .str l=>K (.i l.length) G
  | _=>False
 | .lenSl x=>lenL G (x.ev ρ) fun n=>K (.i n) G
 | .maxi mx x y=>match x.ev ρ,y.ev ρ with
  | .i a,.i b=>K (.i (match mx with | true=>max a b | false=>min a b)) G
  | .u a,.u b=>K (.u (match mx with | true=>if a < b then b else a | false=>if b < a then b else a)) G
  | _,_=>False
 | .max3 mx x y z=>match x.ev ρ with
  | .i a=>match y.ev ρ with
   | .i b=>match z.ev ρ with
    | .i d=>K (.i (match mx with | true=>max (max a b) d | false=>min (min a b) d)) G
    | _=>False
   | _=>False
  | _=>False
 | .ixAddrArr len size x i=>match i.ev ρ with
  | .i n=>0≤n∧n < len∧match x.ev ρ with
   | .ptr p j=>K (.ptr p (j+n.toNat * size)) G
   | .dptr p k j=>K (.dptr p k (j+n.toNat * size)) G
   | .cptr l j=>K (.cptr l (j+n.toNat * size)) G
   | _=>False
  | _=>False
 | .ixArr g len size x i=>match i.ev ρ with
  | .i n=>0≤n∧n < len∧match x.ev ρ with
   | .agg l=>match g with
    | true=>n.toNat * size+size≤l.length∧K (.agg ((l.drop (n.toNat * size)).take size)) G
    | false=>nthL l (n.toNat * size) fun v=>K v G
   | _=>False
  | _=>False
 | .lenArr n _=>K (.i n) G
 | .appZ size z s x=>match x.ev ρ with
  | .i n=>0≤n∧n≤1048576∧z.length=size∧appL G size (s.ev ρ) n.toNat (repL z n.toNat) K
  | _=>False
 | .appG size s x=>rowL G size (x.ev ρ) fun n l=>n≤1048576∧appL G size (s.ev ρ) n l K
 | .copy size d x=>rowL G size (x.ev ρ) fun n l=>match d.ev ρ with
  | .dy p k=>match G[p]? with
   | some (.dyn r len esz ver st)=>k=ver∧esz=size∧K (.i (min n len:Nat)) (G.set p (.dyn (z0w r 0 (l.take (min n len * size))) len esz ver (st+1)))
   | _=>False
  | .vw p k lo len=>match G[p]? with
   | some (.dyn r len0 esz ver st)=>k=ver∧esz=size∧(lo+len) * size≤r.length∧K (.i (min n len:Nat)) (G.set p (.dyn (z0w r (lo * size) (l.take (min n len * size))) len0 esz ver (st+1)))
   | _=>False
  | _=>False
 | .clear size z x=>match x.ev ρ with
  | .vw p k lo len=>match G[p]? with
   | some (.dyn r len0 esz ver st)=>k=ver∧esz=size∧z.length=size∧(lo+len) * size≤r.length∧K .any (G.set p (.dyn (z0w r (lo * size) (repL z len)) len0 esz ver (st+1)))
   | _=>False
  | _=>False
 | .mkMap0=>K (.map G.length) (G++[.map [] 0 0])
 | .mkMap1 x=>match x.ev ρ with
  | .i _=>K (.map G.length) (G++[.map [] 0 0])
  | _=>False
 | .lookup d z ok x i=>mapL G (x.ev ρ) fun es=>zjw d (i.ev ρ) (zut z ok fun v=>K v G) es
 | .mapUpd d m k v=>znc G d (m.ev ρ) (k.ev ρ) (v.ev ρ) fun G'=>K .any G'
 | .lenMap x=>mapL G (x.ev ρ) fun es=>K (.i es.length) G
 | .slArr n size x lo hi=>match x.ev ρ with
  | .ptr p i=>match G[p]? with
   | some (.cells l st)=>i+n * size≤l.length∧bndL ρ 0 lo fun a=>bndL ρ n hi fun b=>a≤b∧b≤n∧K (.lst ((l.drop (i+a * size)).take ((b - a) * size)) (b - a) size) (G.set p (.dead (st+1)))
   | _=>False
  | _=>False
 | .callV f args=>match f.ev ρ with
  | .fn (.func g) a b=>z0k P (.fn g) (a++args.map (·.ev ρ)++b) G K
  | .fn (.yield p) [] _=>z0k P (.yield p) (args.map (·.ev ρ)) G K
  | _=>False
end Go.Sv
namespace Go.Sv
theorem z5c {t:Tr AV}:∀ {n i:Nat} {l:List AV},l.length=n→(∀ j,j < n→getP (z09 (i+j)) t=l[j]?)→z15 t i n=some l
 | 0,i,l,h,_=>by
  have:l=[]:=List.eq_nil_of_length_eq_zero h
  subst this; rfl
 | n+1,i,[],h,_=>by simp at h
 | n+1,i,a::l,h,k=>by
  have h0:=k 0 (by omega)
  simp only[Nat.add_zero,List.getElem?_cons_zero] at h0
  have ih:=z5c (t:=t) (n:=n) (i:=i+1) (l:=l) (by simpa using h) (fun j hj=>by
   have:=k (j+1) (by omega)
   rw[List.getElem?_cons_succ] at this
   rw[←this,show i+1+j=i+(j+1) from by omega])
  simp only[z15,h0,ih]
theorem zm2 {t:Tr AV} {N i n:Nat} {l:List AV} (h:z15 t 0 N=some l) (hle:i+n≤N):z15 t i n=some ((l.drop i).take n):=by
 obtain⟨h1,h2⟩:=z1k h
 refine z5c (by simp; omega) (fun j hj=>?_)
 have:=h2 (i+j) (by omega)
 rw[Nat.zero_add] at this
 rw[this,List.getElem?_take_of_lt hj,List.getElem?_drop]
theorem z62 (l:List AV):z15 (z0g l 0 .e) 0 l.length=some l :=
 z5c rfl (fun j hj=>by rw[get_ofList,if_pos (by omega)]; simp)
def zft (l:List AV) (i:Nat) (r:List AV):List AV:=l.take i++r++l.drop (i+r.length)
theorem zm6 {l r:List AV} {i:Nat} (h:i+r.length≤l.length):(zft l i r).length=l.length:=by
 unfold zft; simp; omega
theorem zg5 {l r:List AV} {i:Nat} (h:i+r.length≤l.length) (j:Nat):(zft l i r)[j]?=if i≤j∧j < i+r.length then r[j - i]? else l[j]?:=by
 have hi:(l.take i).length=i:=by simp; omega
 unfold zft
 by_cases h1:j < i
 ·rw[if_neg (by omega),List.append_assoc,List.getElem?_append_left (by omega),List.getElem?_take_of_lt h1]
 ·by_cases h2:j < i+r.length
  ·rw[if_pos (by omega),List.getElem?_append_left (by simp; omega),List.getElem?_append_right (by omega),hi]
  ·rw[if_neg (by omega),List.getElem?_append_right (by simp; omega),List.getElem?_drop]
   congr 1
   simp
   omega
theorem zei {t:Tr AV} {N i:Nat} {l r:List AV} (h:z15 t 0 N=some l) (hle:i+r.length≤N):z15 (z0g r i t) 0 N=some (zft l i r):=by
 obtain⟨h1,h2⟩:=z1k h
 refine z5c (by rw[zm6 (by omega)]; exact h1) (fun j hj=>?_)
 have:=h2 j hj
 rw[Nat.zero_add] at this ⊢
 rw[get_ofList,zg5 (by omega),this]
theorem zmu {t:Tr AV} {N:Nat} {l r:List AV} (h:z15 t 0 N=some l):z15 (z0g r N t) 0 (N+r.length)=some (l++r):=by
 obtain⟨h1,h2⟩:=z1k h
 refine z5c (by simp; omega) (fun j hj=>?_)
 rw[Nat.zero_add,get_ofList]
 by_cases hj':N≤j
 ·rw[if_pos ⟨hj',by omega⟩,List.getElem?_append_right (by omega),h1]
 ·rw[if_neg (by omega),List.getElem?_append_left (by omega)]
  have:=h2 j (by omega)
  rwa [Nat.zero_add] at this
theorem z1m {H:Heap} {o v i n N clen:Nat} {t:Tr AV} {ro:Bool} {l:List AV} (hg:H.get o=some (.cells t clen v ro)) (hc:z15 t 0 N=some l) (hN:N≤clen) (hle:i+n≤N):z1n H o v i n=some ((l.drop i).take n):=by
 unfold z1n
 rw[hg]
 have hb:Nat.ble (Nat.add i n) clen=true:=Nat.ble_eq_true_of_le (by show i+n≤clen; omega)
 simp only[Nat.beq_refl,hb]
 exact zm2 hc hle
theorem z3e {H H':Heap} {o:Nat} (h:H'.get o=H.get o) (v i n:Nat):z1n H' o v i n=z1n H o v i n:=by
 unfold z1n; rw[h]
theorem zj3 {H:Heap} {o v i n j m:Nat} {l:List AV} (h:z1n H o v i n=some l) (hle:j+m≤n):z1n H o v (i+j) m=some ((l.drop j).take m):=by
 unfold z1n at h ⊢
 split at h
 ·rename_i t clen ver ro hg
  split at h
  ·rename_i hv
   split at h
   ·rename_i hb
    have hb':i+n≤clen:=Nat.le_of_ble_eq_true hb
    have hb2:Nat.ble (Nat.add (i+j) m) clen=true:=Nat.ble_eq_true_of_le (by show i+j+m≤clen; omega)
    simp only[hb2]
    obtain⟨h1,h2⟩:=z1k h
    refine z5c (by simp; omega) (fun q hq=>?_)
    have:=h2 (j+q) (by omega)
    rw[Nat.add_assoc,this,List.getElem?_take_of_lt hq,List.getElem?_drop]
   ·cases h
  ·cases h
 ·cases h
theorem zcp {H:Heap} {o v i n:Nat} {l:List AV} (h:z1n H o v i n=some l):l.length=n:=by
 unfold z1n at h
 split at h
 ·split at h
  ·split at h
   ·exact (z1k h).1
   ·cases h
  ·cases h
 ·cases h
section lists
variable {c : Cx}
theorem ARs.length:∀ {l:List LV} {r:List AV},ARs c l r→l.length=r.length
 | _,_,.nil=>rfl
 | _,_,.cons _ es=>by simp[ARs.length es]
theorem ARs.get:∀ {l:List LV} {r:List AV},ARs c l r→∀ {i:Nat} {v:LV},l[i]?=some v→∃ a,r[i]?=some a∧AR c v a
 | _,_,.nil,i,v,h=>by simp at h
 | _,_,.cons e es,0,v,h=>by simp only[List.getElem?_cons_zero,Option.some.injEq] at h; subst h; exact⟨_,rfl,e⟩
 | _,_,.cons e es,i+1,v,h=>by simp only[List.getElem?_cons_succ] at h ⊢; exact ARs.get es h
theorem ARs.append:∀ {l:List LV} {r:List AV} {l':List LV} {r':List AV},ARs c l r→ARs c l' r'→ARs c (l++l') (r++r')
 | _,_,_,_,.nil,k=>k
 | _,_,_,_,.cons e es,k=>.cons e (ARs.append es k)
theorem ARs.drop:∀ {l:List LV} {r:List AV},ARs c l r→∀ n,ARs c (l.drop n) (r.drop n)
 | _,_,h,0=>h
 | _,_,.nil,_+1=>.nil
 | _,_,.cons _ es,n+1=>ARs.drop es n
theorem ARs.take:∀ {l:List LV} {r:List AV},ARs c l r→∀ n,ARs c (l.take n) (r.take n)
 | _,_,_,0=>.nil
 | _,_,.nil,_+1=>.nil
 | _,_,.cons e es,n+1=>.cons e (ARs.take es n)
theorem ARs.lay {l r:List LV} {l' r':List AV} (h:ARs c l l') (k:ARs c r r') (i:Nat):ARs c (z0w l i r) (zft l' i r'):=by
 unfold z0w zft
 rw[k.length]
 exact ((h.take i).append k).append (h.drop _)
theorem z9r {l r:List LV} {i:Nat} (h:i+r.length≤l.length):(z0w l i r).length=l.length:=by
 unfold z0w; simp; omega
theorem ARs.rep {z:List LV} {z':List AV} (h:ARs c z z'):∀ n,ARs c (repL z n) (z1y z' n)
 | 0=>.nil
 | n+1=>h.append (ARs.rep h n)
theorem z77 (z:List LV):∀ n,(repL z n).length=n * z.length
 | 0=>by simp[repL]
 | n+1=>by simp[repL,z77 z n,Nat.add_mul]; omega
end lists
theorem zsq (c:Cx) {v:LV} (h:v.scal=true):AR c v (toA v):=by
 cases v <;> first | (cases h; done) | (unfold toA; constructor)
theorem z7k (c:Cx):∀ {l:List LV},l.all LV.scal=true→ARs c l (toAs l)
 | [],_=>by unfold toAs; exact .nil
 | v::l,h=>by
  simp only[List.all_cons,Bool.and_eq_true] at h
  unfold toAs
  exact .cons (zsq c h.1) (z7k c h.2)
theorem cst_AR (c:Cx) {v:LV} (h:v.cst=true):AR c v (toA v):=by
 unfold LV.cst at h
 split at h
 ·unfold toA; exact .fn .nil .nil
 ·unfold toA; exact .agg (z7k c h)
 ·unfold toA toAs; exact .tup .nil
 ·exact zsq c h
theorem AR.cells {c:Cx} {v:LV} {a:AV} (h:AR c v a) {l:List LV} (hl:v.cells=some l):∃ l',a.cells=some l'∧ARs c l l':=by
 cases v with
 | any=>cases hl
 | tup _=>cases hl
 | agg l0=>cases hl; cases h with | agg h=>exact⟨_,rfl,h⟩
 | dy p k =>
  simp only[LV.cells,Option.some.injEq] at hl
  subst hl
  have h0:=h
  refine⟨[a],?_,.cons h0 .nil⟩
  cases h with | dy _ _ _ hs=>cases a <;> first | rfl | cases hs
 | vw p k lo len =>
  simp only[LV.cells,Option.some.injEq] at hl
  subst hl
  have h0:=h
  refine⟨[a],?_,.cons h0 .nil⟩
  cases h with | vw _ _ _ hs _=>cases a <;> first | rfl | cases hs
 | vf p k len =>
  simp only[LV.cells,Option.some.injEq] at hl
  subst hl
  have h0:=h
  refine⟨[a],?_,.cons h0 .nil⟩
  cases h with | vf _ _ _ hs=>cases a <;> first | rfl | cases hs
 | _ =>
  simp only[LV.cells,Option.some.injEq] at hl
  subst hl
  have h0:=h
  refine⟨[a],?_,.cons h0 .nil⟩
  cases h <;> rfl
theorem CxLe.refl (c:Cx):CxLe c c:=⟨fun _ k h e=>⟨k,h,e,Nat.le_refl _,fun _=>rfl,fun _=>rfl⟩,fun _ h=>⟨h,rfl⟩⟩
theorem CxLe.trans {a b c:Cx} (h:CxLe a b) (k:CxLe b c):CxLe a c:=by
 refine⟨fun p v x e=>?_,fun o e=>?_⟩
 ·obtain⟨v1,x1,e1,l1,s1,f1⟩:=h.hd p v x e
  obtain⟨v2,x2,e2,l2,s2,f2⟩:=k.hd p v1 x1 e1
  refine⟨v2,x2,e2,Nat.le_trans l1 l2,fun q=>?_,fun q=>?_⟩
  ·have q1:v=v1:=by omega
   have q2:v1=v2:=by omega
   rw[s1 q1,s2 q2]
  ·have q1:=f1 q
   have:=s1 q1
   subst this
   rw[q1,f2 q]
 ·obtain⟨h1,h2⟩:=h.fz o e
  obtain⟨h3,h4⟩:=k.fz o h1
  exact⟨h3,h4.trans h2⟩
theorem CxLe.fix {c c':Cx} (h:CxLe c c') {p k:Nat} {x:AV} (e:c.hd[p]?=some (k,x)) (hf:fixd x=true):c'.hd[p]?=some (k,x):=by
 obtain⟨k',x',e',_,s,f⟩:=h.hd p k x e
 have:=f hf
 subst this
 rw[s rfl]; exact e'
mutual
theorem AR.mono {c c':Cx} (h:CxLe c c'):∀ {v:LV} {a:AV},AR c v a→AR c' v a
 | _,_,.any a=>.any a
 | _,_,.bool b=>.bool b
 | _,_,.u x=>.u x
 | _,_,.b x=>.b x
 | _,_,.i n=>.i n
 | _,_,.int k n=>.int k n
 | _,_,.str l=>.str l
 | _,_,.nilPtr=>.nilPtr
 | _,_,.ptr e=>.ptr (h.fix e rfl)
 | _,_,.dptr hp hk ha=>by
  obtain⟨k2,h2,e2,l2,s2,_⟩:=h.hd _ _ _ hp
  refine .dptr e2 (Nat.le_trans hk l2) (fun q=>?_)
  have q1:=ha (by omega)
  rw[←s2 (by omega)]
  exact q1
 | _,_,.cptr hf hr hl=>.cptr (h.fz _ hf).1 (by rw[z3e (h.fz _ hf).2]; exact hr) (ARs.mono h hl)
 | _,_,.nilSl=>.nilSl
 | _,_,.dy hp hk ha hs=>by
  obtain⟨k2,h2,e2,l2,s2,_⟩:=h.hd _ _ _ hp
  refine .dy e2 (Nat.le_trans hk l2) (fun q=>?_) hs
  have q1:=ha (by omega)
  rw[←s2 (by omega)]
  exact q1
 | _,_,.vw hp hk ha hs hz=>by
  obtain⟨k2,h2,e2,l2,s2,_⟩:=h.hd _ _ _ hp
  refine .vw e2 (Nat.le_trans hk l2) (fun q=>?_) hs (fun q=>?_)
  ·have q1:=ha (by omega)
   rw[←s2 (by omega)]
   exact q1
  ·have q1:=hz (by omega)
   rw[←s2 (by omega)]
   exact q1
 | _,_,.vf hp hk ha hs=>by
  obtain⟨k2,h2,e2,l2,s2,_⟩:=h.hd _ _ _ hp
  refine .vf e2 (Nat.le_trans hk l2) (fun q=>?_) hs
  have q1:=ha (by omega)
  rw[←s2 (by omega)]
  exact q1
 | _,_,.lst hf hrm hlen hr hl=>.lst (h.fz _ hf).1 hrm hlen (by rw[z3e (h.fz _ hf).2]; exact hr) (ARs.mono h hl)
 | _,_,.lstNil=>.lstNil
 | _,_,.lstEmp=>.lstEmp
 | _,_,.nilMap=>.nilMap
 | _,_,.map e=>.map (h.fix e rfl)
 | _,_,.nilFn=>.nilFn
 | _,_,.fn hl hr=>.fn (ARs.mono h hl) (ARs.mono h hr)
 | _,_,.yield e=>.yield (h.fix e rfl)
 | _,_,.nilIf=>.nilIf
 | _,_,.iface e=>.iface (AR.mono h e)
 | _,_,.agg e=>.agg (ARs.mono h e)
 | _,_,.tup e=>.tup (ARs.mono h e)
theorem ARs.mono {c c':Cx} (h:CxLe c c'):∀ {l:List LV} {r:List AV},ARs c l r→ARs c' l r
 | _,_,.nil=>.nil
 | _,_,.cons e es=>.cons (AR.mono h e) (ARs.mono h es)
end
theorem MRs.mono {c c':Cx} (h:CxLe c c'):∀ {l:List (LV×LV×Nat)} {r:List (AV×AV×Nat)},MRs c l r→MRs c' l r
 | _,_,.nil=>.nil
 | _,_,.cons hk hv hs=>.cons (hk.mono h) (hv.mono h) (MRs.mono h hs)
theorem EnvL.mono {c c':Cx} (h:CxLe c c') {ρ:LEnv} {E:Tr AV} (k:EnvL c ρ E):EnvL c' ρ E:=fun t=>(k t).mono h
theorem ObR.mono {c c':Cx} (h:CxLe c c') {k:Nat} {x:AV} {ob:LObj} (hg:∀ o,idOf x=some o→c'.H.get o=c.H.get o) (r:ObR c k x ob):ObR c' k x ob:=by
 cases ob with
 | dead st=>trivial
 | cells l st =>
  obtain⟨r0,o,t,l',rfl,r2,r3,r4⟩:=r
  exact⟨r0,o,t,l',rfl,by rw[hg o rfl]; exact r2,r3,r4.mono h⟩
 | dyn l len esz ver st =>
  obtain⟨r0,r1,r2⟩:=r
  refine⟨r0,r1,?_⟩
  rcases r2 with r2 | ⟨o,v,room,t,clen,l',rfl,r3,r4,r5,r6,r7⟩
  ·exact .inl r2
  ·exact .inr ⟨o,v,room,t,clen,l',rfl,by rw[hg o rfl]; exact r3,r4,r5,r6.mono h,r7⟩
 | map es ck st =>
  obtain⟨r0,o,es',rfl,r2,r3⟩:=r
  exact⟨r0,o,es',rfl,by rw[hg o rfl]; exact r2,r3.mono h⟩
 | iter l pos =>
  obtain⟨r0,o,rfl,r2⟩:=r
  exact⟨r0,o,rfl,by rw[hg o rfl]; exact r2⟩
 | loop s pend f n ρ ps a b d =>
  obtain⟨r0,o,od,E,rfl,r2,r3,r4⟩:=r
  exact⟨r0,o,od,E,rfl,h.fix r2 rfl,by rw[hg o rfl]; exact r3,r4.mono h⟩
 | defd op =>
  obtain⟨r0,o,rfl,r2⟩:=r
  exact⟨r0,o,rfl,by rw[hg o rfl]; exact r2⟩
theorem Step.refl (c:Cx) (G:z03):Step c G c G:=by
 refine⟨.refl c,Nat.le_refl _,fun _ _ _=>rfl,fun _ h=>.inl h,fun _ h=>.inl h,fun p ob ob' e1 e2=>?_,fun p ob ob' k h o e1 e2 _ _ _ _=>?_⟩
 ·rw[e1] at e2; cases e2
  exact Nat.le_refl _
 ·rw[e1] at e2; cases e2
  exact⟨rfl,rfl,rfl⟩
theorem Step.trans {c c1 c2:Cx} {G G1 G2:z03} (h0:HSim c G) (h1:HSim c1 G1) (s1:Step c G c1 G1) (s2:Step c1 G1 c2 G2):Step c G c2 G2:=by
 have mid:∀ p ob,G[p]?=some ob→∃ ob1,G1[p]?=some ob1:=fun p ob e=>by
  have hp:p < c.hd.length:=by rw[h0.len]; exact (List.getElem?_eq_some_iff.1 e).1
  obtain⟨k,h,e3⟩:∃ k h,c.hd[p]?=some (k,h):=⟨_,_,List.getElem?_eq_getElem hp⟩
  obtain⟨k1,x1,q1,_,_,_⟩:=s1.le.hd p k h e3
  have hp:p < G1.length:=by rw[←h1.len]; exact (List.getElem?_eq_some_iff.1 q1).1
  exact⟨_,List.getElem?_eq_getElem hp⟩
 refine⟨s1.le.trans s2.le,Nat.le_trans s1.nx s2.nx,fun o ho hn=>?_,fun o ho=>?_,fun o ho=>?_,fun p ob ob2 e1 e2=>?_,fun p ob ob2 k h o e1 e2 e3 e4 hl he=>?_⟩
 ·rw[s2.frame o (Nat.lt_of_lt_of_le ho s1.nx) (fun hc=>?_),s1.frame o ho hn]
  rcases s1.new o hc with h | h
  ·exact hn h
  ·omega
 ·rcases s2.new o ho with h | h
  ·exact s1.new o h
  ·exact .inr (Nat.le_trans s1.nx h)
 ·rcases s2.fznew o ho with h | h | h
  ·exact s1.fznew o h
  ·rcases s1.new o h with h | h
   ·exact .inr (.inl h)
   ·exact .inr (.inr h)
  ·exact .inr (.inr (Nat.le_trans s1.nx h))
 ·obtain⟨ob1,q2⟩:=mid p ob e1
  exact Nat.le_trans (s1.mono p ob ob1 e1 q2) (s2.mono p ob1 ob2 q2 e2)
 ·obtain⟨ob1,q2⟩:=mid p ob e1
  have m1:=s1.mono p ob ob1 e1 q2
  have m2:=s2.mono p ob1 ob2 q2 e2
  obtain⟨rfl,r3,r4⟩:=s1.st p ob ob1 k h o e1 q2 e3 e4 hl (by omega)
  obtain⟨rfl,r7,r8⟩:=s2.st p ob1 ob2 k h o q2 e2 (by rw[r4]; exact e3) e4 hl (by omega)
  rw[r7,r8,r3,r4]
  exact⟨rfl,rfl,rfl⟩
theorem HSim.push {c:Cx} {G:z03} (hs:HSim c G) {H':Heap} {x:AV} {ob:LObj} (hnx:c.H.next≤H'.next) (hfr:∀ o,o < c.H.next→H'.get o=c.H.get o) (hid:∀ o,idOf x=some o→c.H.next≤o∧o < H'.next)
  (hob:ObR ⟨c.hd++[(0,x)],c.Fz,H'⟩ 0 x ob):HSim ⟨c.hd++[(0,x)],c.Fz,H'⟩ (G++[ob])∧Step c G ⟨c.hd++[(0,x)],c.Fz,H'⟩ (G++[ob])∧CxLe c ⟨c.hd++[(0,x)],c.Fz,H'⟩:=by
 have hhd:∀ (p k:Nat) (h:AV),c.hd[p]?=some (k,h)→(c.hd++[(0,x)])[p]?=some (k,h):=fun p k h e=>by
  rw[List.getElem?_append_left (List.getElem?_eq_some_iff.1 e).1]; exact e
 have hle:CxLe c ⟨c.hd++[(0,x)],c.Fz,H'⟩:=⟨fun p k h e=>⟨k,h,hhd p k h e,Nat.le_refl _,fun _=>rfl,fun _=>rfl⟩,fun o ho=>⟨ho,hfr o (hs.fz o ho)⟩⟩
 have hinv:∀ (p:Nat) (k:Nat) (h:AV) (ob':LObj),(c.hd++[(0,x)])[p]?=some (k,h)→(G++[ob])[p]?=some ob'→(c.hd[p]?=some (k,h)∧G[p]?=some ob')∨(p=G.length∧k=0∧h=x∧ob'=ob):=by
  intro p k h ob' e1 e2
  by_cases hp:p < G.length
  ·rw[List.getElem?_append_left hp] at e2
   rw[List.getElem?_append_left (by rw[hs.len]; exact hp)] at e1
   exact .inl ⟨e1,e2⟩
  ·have hp':p=G.length:=by
    have:=(List.getElem?_eq_some_iff.1 e2).1
    simp at this
    omega
   subst hp'
   rw[List.getElem?_concat_length] at e2
   rw[←hs.len,List.getElem?_concat_length] at e1
   cases e1; cases e2
   exact .inr ⟨rfl,rfl,rfl,rfl⟩
 have hown:∀ o,Own ⟨c.hd++[(0,x)],c.Fz,H'⟩ (G++[ob]) o→Own c G o∨(c.H.next≤o∧o < H'.next):=by
  rintro o ⟨p,ob',k,h,e1,e2,e3,e4⟩
  rcases hinv p k h ob' e3 e1 with ⟨q1,q2⟩ | ⟨_,_,rfl,_⟩
  ·exact .inl ⟨p,ob',k,h,q2,e2,q1,e4⟩
  ·exact .inr (hid o e4)
 refine⟨⟨by simp[hs.len],fun o ho=>Nat.lt_of_lt_of_le (hs.fz o ho) hnx,fun o ho=>?_,fun o ho hf=>?_,fun p ob' k h e1 e2=>?_,?_⟩,⟨hle,hnx,fun o ho _=>hfr o ho,fun o ho=>?_,fun o ho=>.inl ho,fun p ob1 ob2 e1 e2=>?_,fun p ob1 ob2 k h o e1 e2 e3 e4 hl _=>?_⟩,hle⟩
 ·rcases hown o ho with h | h
  ·exact Nat.lt_of_lt_of_le (hs.lt o h) hnx
  ·exact h.2
 ·rcases hown o ho with h | h
  ·exact hs.sep o h hf
  ·have:=hs.fz o hf; omega
 ·rcases hinv p k h ob' e2 e1 with ⟨q1,q2⟩ | ⟨_,rfl,rfl,rfl⟩
  ·by_cases hl:ob'.live=true
   ·exact (hs.obj p ob' k h q2 q1).mono hle (fun o ho=>hfr o (hs.lt o ⟨p,ob',k,h,q2,hl,q1,ho⟩))
   ·cases ob' <;> first | exact absurd rfl hl | trivial
  ·exact hob
 ·intro p q ob1 ob2 k h k' h' o e1 e2 e3 e4 e5 e6 e7 e8
  rcases hinv p k h ob1 e5 e1 with ⟨q1,q2⟩ | ⟨r1,_,rfl,rfl⟩ <;> rcases hinv q k' h' ob2 e6 e2 with ⟨q3,q4⟩ | ⟨r2,_,rfl,rfl⟩
  ·exact hs.excl p q ob1 ob2 k h k' h' o q2 q4 e3 e4 q1 q3 e7 e8
  ·have:=hs.lt o ⟨p,ob1,k,h,q2,e3,q1,e7⟩
   have:=hid o e8; omega
  ·have:=hs.lt o ⟨q,ob2,k',h',q4,e4,q3,e8⟩
   have:=hid o e7; omega
  ·omega
 ·rcases hown o ho with h | h
  ·exact .inl h
  ·exact .inr h.1
 ·rw[List.getElem?_append_left (List.getElem?_eq_some_iff.1 e1).1,e1] at e2
  cases e2; exact Nat.le_refl _
 ·rw[List.getElem?_append_left (List.getElem?_eq_some_iff.1 e1).1,e1] at e2
  cases e2
  have hlive:ob1.live=true:=by cases ob1 <;> first | rfl | cases hl
  exact⟨rfl,hfr o (hs.lt o ⟨p,ob1,k,h,e1,hlive,e3,e4⟩),by rw[hhd p k h e3,e3]⟩
theorem HSim.upd {c:Cx} {G:z03} (hs:HSim c G) {p k k':Nat} {x x':AV} {ob ob':LObj} {H':Heap} (hG:G[p]?=some ob) (hl:ob.live=true) (hp:c.hd[p]?=some (k,x)) (hnx:c.H.next≤H'.next)
  (hfr:∀ o,o < c.H.next→idOf x≠some o→H'.get o=c.H.get o) (hid:∀ o,idOf x'=some o→(idOf x=some o∨c.H.next≤o)∧o < H'.next)
  (hk:k≤k') (hx:k=k'→x=x') (hf:fixd x=true→k=k') (hst:ob.st < ob'.st∨(ob.stp=false∧ob.st≤ob'.st))
  (hob:CxLe c ⟨c.hd.set p (k',x'),c.Fz,H'⟩→ObR ⟨c.hd.set p (k',x'),c.Fz,H'⟩ k' x' ob') :
  HSim ⟨c.hd.set p (k',x'),c.Fz,H'⟩ (G.set p ob')∧Step c G ⟨c.hd.set p (k',x'),c.Fz,H'⟩ (G.set p ob')∧CxLe c ⟨c.hd.set p (k',x'),c.Fz,H'⟩:=by
 have hpl:p < c.hd.length:=(List.getElem?_eq_some_iff.1 hp).1
 have hpg:p < G.length:=(List.getElem?_eq_some_iff.1 hG).1
 have hownx:∀ o,idOf x=some o→Own c G o:=fun o ho=>⟨p,ob,k,x,hG,hl,hp,ho⟩
 have hle:CxLe c ⟨c.hd.set p (k',x'),c.Fz,H'⟩:=by
  refine⟨fun q k1 h1 e=>?_,fun o ho=>⟨ho,hfr o (hs.fz o ho) (fun q=>hs.sep o (hownx o q) ho)⟩⟩
  by_cases hq:q=p
  ·subst hq
   rw[hp] at e; cases e
   exact⟨k',x',by dsimp only; rw[List.getElem?_set_self hpl],hk,hx,hf⟩
  ·exact⟨k1,h1,by dsimp only; rw[List.getElem?_set_ne (Ne.symm hq)]; exact e,Nat.le_refl _,fun _=>rfl,fun _=>rfl⟩
 have hinv:∀ (q:Nat) (k1:Nat) (h1:AV) (ob1:LObj),(c.hd.set p (k',x'))[q]?=some (k1,h1)→(G.set p ob')[q]?=some ob1→(q≠p∧c.hd[q]?=some (k1,h1)∧G[q]?=some ob1)∨(q=p∧k1=k'∧h1=x'∧ob1=ob'):=by
  intro q k1 h1 ob1 e1 e2
  by_cases hq:q=p
  ·subst hq
   rw[List.getElem?_set_self hpl] at e1
   rw[List.getElem?_set_self hpg] at e2
   cases e1; cases e2
   exact .inr ⟨rfl,rfl,rfl,rfl⟩
  ·rw[List.getElem?_set_ne (Ne.symm hq)] at e1 e2
   exact .inl ⟨hq,e1,e2⟩
 have hother:∀ (q:Nat) (k1:Nat) (h1:AV) (ob1:LObj) (o:Nat),q≠p→c.hd[q]?=some (k1,h1)→G[q]?=some ob1→ob1.live=true→idOf h1=some o→idOf x≠some o:=by
  intro q k1 h1 ob1 o hq e1 e2 e3 e4 e5
  exact hq (hs.excl q p ob1 ob k1 h1 k x o e2 hG e3 hl e1 hp e4 e5)
 have hown:∀ o,Own ⟨c.hd.set p (k',x'),c.Fz,H'⟩ (G.set p ob') o→(Own c G o∧o < c.H.next)∨(c.H.next≤o∧o < H'.next):=by
  rintro o ⟨q,ob1,k1,h1,e1,e2,e3,e4⟩
  rcases hinv q k1 h1 ob1 e3 e1 with ⟨_,q1,q2⟩ | ⟨_,_,rfl,_⟩
  ·have:=(⟨q,ob1,k1,h1,q2,e2,q1,e4⟩:Own c G o)
   exact .inl ⟨this,hs.lt o this⟩
  ·obtain⟨q1,q2⟩:=hid o e4
   rcases q1 with q1 | q1
   ·exact .inl ⟨hownx o q1,hs.lt o (hownx o q1)⟩
   ·exact .inr ⟨q1,q2⟩
 refine⟨⟨by simp[hs.len],fun o ho=>Nat.lt_of_lt_of_le (hs.fz o ho) hnx,fun o ho=>?_,fun o ho hf=>?_,fun q ob1 k1 h1 e1 e2=>?_,?_⟩,⟨hle,hnx,fun o ho hn=>hfr o ho (fun q=>hn (hownx o q)),fun o ho=>?_,fun o ho=>.inl ho,fun q ob1 ob2 e1 e2=>?_,fun q ob1 ob2 k1 h1 o e1 e2 e3 e4 hstp he=>?_⟩,hle⟩
 ·rcases hown o ho with h | h
  ·exact Nat.lt_of_lt_of_le h.2 hnx
  ·exact h.2
 ·rcases hown o ho with h | h
  ·exact hs.sep o h.1 hf
  ·have:=hs.fz o hf; omega
 ·rcases hinv q k1 h1 ob1 e2 e1 with ⟨hq,q1,q2⟩ | ⟨_,rfl,rfl,rfl⟩
  ·by_cases hl1:ob1.live=true
   ·refine (hs.obj q ob1 k1 h1 q2 q1).mono hle (fun o ho=>hfr o (hs.lt o ⟨q,ob1,k1,h1,q2,hl1,q1,ho⟩) (hother q k1 h1 ob1 o hq q1 q2 hl1 ho))
   ·cases ob1 <;> first | exact absurd rfl hl1 | trivial
  ·exact hob hle
 ·intro q r ob1 ob2 k1 h1 k2 h2 o e1 e2 e3 e4 e5 e6 e7 e8
  rcases hinv q k1 h1 ob1 e5 e1 with ⟨r0,q1,q2⟩ | ⟨r1,_,rfl,rfl⟩ <;> rcases hinv r k2 h2 ob2 e6 e2 with ⟨r3,q3,q4⟩ | ⟨r2,_,rfl,rfl⟩
  ·exact hs.excl q r ob1 ob2 k1 h1 k2 h2 o q2 q4 e3 e4 q1 q3 e7 e8
  ·have h3:=hs.lt o ⟨q,ob1,k1,h1,q2,e3,q1,e7⟩
   rcases (hid o e8).1 with h | h
   ·exact absurd h (hother q k1 h1 ob1 o r0 q1 q2 e3 e7)
   ·omega
  ·have h3:=hs.lt o ⟨r,ob2,k2,h2,q4,e4,q3,e8⟩
   rcases (hid o e7).1 with h | h
   ·exact absurd h (hother r k2 h2 ob2 o r3 q3 q4 e4 e8)
   ·omega
  ·omega
 ·rcases hown o ho with h | h
  ·exact .inl h.1
  ·exact .inr h.1
 ·by_cases hq:q=p
  ·subst hq
   rw[List.getElem?_set_self hpg] at e2
   cases e2
   rw[hG] at e1; cases e1
   rcases hst with h | h
   ·exact Nat.le_of_lt h
   ·exact h.2
  ·rw[List.getElem?_set_ne (Ne.symm hq),e1] at e2
   cases e2; exact Nat.le_refl _
 ·by_cases hq:q=p
  ·subst hq
   rw[List.getElem?_set_self hpg] at e2
   cases e2
   rw[hG] at e1; cases e1
   rcases hst with h | h
   ·omega
   ·rw[h.1] at hstp; cases hstp
  ·rw[List.getElem?_set_ne (Ne.symm hq),e1] at e2
   cases e2
   have hl1:ob1.live=true:=by cases ob1 <;> first | rfl | cases hstp
   exact⟨rfl,hfr o (hs.lt o ⟨q,ob1,k1,h1,e1,hl1,e3,e4⟩) (hother q k1 h1 ob1 o hq e3 e1 hl1 e4),by dsimp only; rw[List.getElem?_set_ne (Ne.symm hq)]⟩
end Go.Sv
