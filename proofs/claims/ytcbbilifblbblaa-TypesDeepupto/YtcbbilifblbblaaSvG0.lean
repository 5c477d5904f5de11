/- Texts of the evaluator, of the logic over it, of plain arithmetic. -/
import Derived.AtR
import Derived.Laws.Sem
import Derived.Laws.World
import Derived.KernelRfl
import Derived.Below
import Derived.Laws.Strings
import Derived.Laws.StructEq
import Derived.Lib.Strings
import Derived.Lib.ConvBytes
import Derived.Laws.BytesArg
import Derived.Laws.RangeString
import Derived.MapKept
import Derived.Laws.Append
import Derived.Laws.AppendOwn
namespace Go.Sv
inductive Tr (α : Type) where
 | e
 | n (v : Option α) (l r : Tr α)
structure GetF (α : Type) where run : Tr α → Option α
structure SetF (α : Type) where run : α → Tr α → Tr α
noncomputable def getF {α : Type} : List Bool → GetF α
 | [] => ⟨fun t => Tr.rec none (fun v _ _ _ _ => v) t⟩
 | b :: p => match b with
  | true => ⟨fun t => Tr.rec none (fun _ l _ _ _ => (getF p).run l) t⟩
  | false => ⟨fun t => Tr.rec none (fun _ _ r _ _ => (getF p).run r) t⟩
noncomputable def setF {α : Type} : List Bool → SetF α
 | [] => ⟨fun a t => Tr.rec (.n (some a) .e .e) (fun _ l r _ _ => .n (some a) l r) t⟩
 | b :: p => match b with
  | true => ⟨fun a t => Tr.rec (.n none ((setF p).run a .e) .e) (fun v l r _ _ => .n v ((setF p).run a l) r) t⟩
  | false => ⟨fun a t => Tr.rec (.n none .e ((setF p).run a .e)) (fun v l r _ _ => .n v l ((setF p).run a r)) t⟩
noncomputable def getP {α : Type} (p : List Bool) (t : Tr α) : Option α := (getF p).run t
noncomputable def setP {α : Type} (a : α) (p : List Bool) (t : Tr α) : Tr α := (setF p).run a t
noncomputable def pathF : Nat → Nat → List Bool
 | 0, _ => []
 | f + 1, k => match k with
  | 0 => []
  | k + 1 => Nat.beq (Nat.mod k 2) 0 :: pathF f (Nat.div k 2)
noncomputable def pathOf (k : Nat) : List Bool := pathF (Nat.succ k) k
noncomputable def lim : Nat := 1000000000
noncomputable def ofListFrom {α : Type} : List α → Nat → Tr α → Tr α
 | [], _, t => t
 | a :: l, i, t => ofListFrom l (i + 1) (setP a (pathOf i) t)
inductive AV where
 | bool (b : Bool)
 | int (k : IntKind) (n : Int)
 | str (len n : Nat)
 | nilPtr
 | ptr (o v i : Nat)
 | nilSl
 | sl (o v i len esz : Nat) (room : Option Nat)
 | emp
 | nilMap
 | map (o : Nat)
 | nilFn
 | fn (f : Fn) (first cap : List AV)
 | nilIf
 | iface (t : TypeId) (v : AV)
 | agg (cs : List AV)
 | tup (vs : List AV)
 deriving Inhabited
noncomputable def AV.cells : AV → Option (List AV)
 | .agg cs => some cs
 | .tup _ => none
 | v => some [v]
noncomputable def packL : List UInt8 → Nat
 | [] => 0
 | b :: l => b.toNat + 256 * packL l
noncomputable def absS : Value → Option AV
 | .bool b => some (.bool b)
 | .int k n => some (.int k n)
 | .string s => some (.str s.data.toList.length (packL s.data.toList))
 | .pointer none => some .nilPtr
 | .slice none 0 0 => some .nilSl
 | .map none => some .nilMap
 | .nilFunc => some .nilFn
 | .nilIface => some .nilIf
 | _ => none
noncomputable def absL : List Value → Option (List AV)
 | [] => some []
 | v :: l => match absS v with
  | none => none
  | some a => match absL l with
   | none => none
   | some r => some (a :: r)
noncomputable def absV : Value → Option AV
 | .agg cs => (absL cs.toList).map .agg
 | .tuple vs => if vs.size = 0 then some (.tup []) else none
 | v => absS v
inductive AObj where
 | cells (c : Tr AV) (len ver : Nat) (ro : Bool)
 | map (es : List (AV × AV × Nat)) (clock : Nat)
 | iter (len n pos : Nat)
 | loop (st : LoopState) (pend : Option Code) (f nt : Nat) (env : Tr AV) (ps : Array Tmp) (assign body : Code) (defers : Nat)
 | defd (isOpen : Bool)
structure Heap where
 t : Tr AObj
 next : Nat
noncomputable def Heap.get (H : Heap) (o : Nat) : Option AObj := getP (pathOf o) H.t
noncomputable def Heap.put (H : Heap) (o : Nat) (x : AObj) : Heap := ⟨setP x (pathOf o) H.t, H.next⟩
noncomputable def Heap.push (H : Heap) (x : AObj) : Heap := ⟨setP x (pathOf H.next) H.t, H.next + 1⟩
noncomputable def getCells (c : Tr AV) : Nat → Nat → Option (List AV)
 | _, 0 => some []
 | i, n + 1 => match getP (pathOf i) c with
  | none => none
  | some a => match getCells c (i + 1) n with
   | none => none
   | some l => some (a :: l)
noncomputable def readAt (H : Heap) (o v i n : Nat) : Option (List AV) :=
 match H.get o with
 | some (.cells c len ver _) => match Nat.beq v ver with
  | true => match Nat.ble (Nat.add i n) len with
   | true => getCells c i n
   | false => none
  | false => none
 | _ => none
noncomputable def writeAt (H : Heap) (o v i : Nat) (l : List AV) : Option Heap :=
 match H.get o with
 | some (.cells c len ver false) => match Nat.beq v ver with
  | true => match Nat.ble (Nat.add i l.length) len with
   | true => some (H.put o (.cells (ofListFrom l i c) len ver false))
   | false => none
  | false => none
 | _ => none
noncomputable def newObj (H : Heap) (l : List AV) : Option (Nat × Heap) := some (H.next, H.push (.cells (ofListFrom l 0 .e) l.length 0 false))
inductive Tgt where
 | fn (f : Nat)
 | yield (l : Nat)
inductive OR where
 | no
 | val (v : AV) (H : Heap)
 | call (t : Tgt) (args : List AV)
structure OpdF where run : Tr AV → Option AV
structure OpF where run : Tr AV → Heap → OR
noncomputable def undefA : AV := .tup []
noncomputable def opd (x : Operand) : OpdF :=
 match x with
 | .tmp t => match Nat.ble t lim with
  | true => ⟨fun E => Option.rec (some undefA) (fun v => some v) (getP (pathOf t) E)⟩
  | false => ⟨fun _ => none⟩
 | .const v => match absV v with
  | some a => ⟨fun _ => some a⟩
  | none => ⟨fun _ => none⟩
 | .func f => ⟨fun _ => some (.fn (.func f) [] [])⟩
 | .global _ => ⟨fun _ => none⟩
structure OpdsF where run : Tr AV → Option (List AV)
noncomputable def opds : List Operand → OpdsF
 | [] => ⟨fun _ => some []⟩
 | x :: l => ⟨fun E => match (opd x).run E with
  | none => none
  | some a => match (opds l).run E with
   | none => none
   | some r => some (a :: r)⟩
noncomputable def stuckF : OpF := ⟨fun _ _ => .no⟩
noncomputable def ret1 (H : Heap) (o : Option AV) : OR := match o with
 | some v => .val v H
 | none => .no
noncomputable def unary1 (x : Operand) (f : Heap → AV → OR) : OpF := ⟨fun E H => Option.rec .no (fun a => f H a) ((opd x).run E)⟩
noncomputable def binary2 (x y : Operand) (f : Heap → AV → AV → OR) : OpF := ⟨fun E H => Option.rec .no (fun a => Option.rec .no (fun b => f H a b) ((opd y).run E)) ((opd x).run E)⟩
noncomputable def sizeT (P : Program) (t : TypeId) : Option Nat := (P.info? t).map (·.size)
noncomputable def aggT (P : Program) (t : TypeId) : Option Bool := match P.underlying t with
 | some (.struct _) | some (.array _ _) => some true
 | some _ => some false
 | none => none
noncomputable def zeroT (P : Program) (t : TypeId) : Option (List AV) := match P.info? t with
 | some i => match i.zero with
  | some v => match absL v.cells.toList with
   | some l => if l.length = i.size then some l else none
   | none => none
  | none => none
 | none => none
noncomputable def zeroV (P : Program) (t : TypeId) : Option AV := match P.info? t with
 | some i => match i.zero with
  | some v => absV v
  | none => none
 | none => none
noncomputable def newVarA (H : Heap) (l : List AV) : OR := match newObj H l with
 | some (o, H') => .val (.ptr o 0 0) H'
 | none => .no
noncomputable def kindIx : IntKind → Nat
 | .i8 => 0 | .i16 => 1 | .i32 => 2 | .i64 => 3 | .u8 => 4 | .u16 => 5 | .u32 => 6 | .u64 => 7
noncomputable def kindEq (k k' : IntKind) : Bool := Nat.beq (kindIx k) (kindIx k')
noncomputable def eqI (a b : Int) : Bool := match a, b with
 | .ofNat x, .ofNat y => Nat.beq x y
 | .negSucc x, .negSucc y => Nat.beq x y
 | _, _ => false
noncomputable def ltI (a b : Int) : Bool := match a, b with
 | .ofNat x, .ofNat y => Nat.blt x y
 | .negSucc x, .negSucc y => Nat.blt y x
 | .negSucc _, .ofNat _ => true
 | .ofNat _, .negSucc _ => false
noncomputable def halfK : IntKind → Nat
 | .i8 => 128 | .u8 => 128 | .i16 => 32768 | .u16 => 32768 | .i32 => 2147483648 | .u32 => 2147483648
 | .i64 => 9223372036854775808 | .u64 => 9223372036854775808
noncomputable def wrapA (k : IntKind) (n : Int) : Int := match n with
 | .ofNat m => match Nat.blt m (halfK k) with
  | true => .ofNat m
  | false => k.wrap (.ofNat m)
 | .negSucc m => k.wrap (.negSucc m)
noncomputable def fullK (k : IntKind) : Nat := Nat.mul 2 (halfK k)
noncomputable def bitsA (f : Nat → Nat → Nat) (k : IntKind) (a b : Int) : Option AV := match a, b with
 | .ofNat x, .ofNat y => match Nat.blt x (fullK k) with
  | true => match Nat.blt y (fullK k) with
   | true => some (.int k (wrapA k (.ofNat (f x y))))
   | false => none
  | false => none
 | _, _ => none
noncomputable def isZ (b : Int) : Bool := match b with
 | .ofNat n => Nat.beq n 0
 | _ => false
noncomputable def arith (op : BinOp) (k : IntKind) (a b : Int) : Option AV :=
 match op with
 | .add => some (.int k (wrapA k (Int.add a b)))
 | .sub => some (.int k (wrapA k (Int.sub a b)))
 | .mul => some (.int k (wrapA k (Int.mul a b)))
 | .quo => match isZ b with
  | true => none
  | false => some (.int k (wrapA k (Int.tdiv a b)))
 | .rem => match isZ b with
  | true => none
  | false => some (.int k (Int.tmod a b))
 | .and => bitsA Nat.land k a b
 | .or => bitsA Nat.lor k a b
 | .xor => bitsA Nat.xor k a b
 | .andNot => bitsA (fun x y => Nat.xor x (Nat.land x y)) k a b
 | .eql => some (.bool (eqI a b))
 | .neq => some (.bool (!(eqI a b)))
 | .lss => some (.bool (ltI a b))
 | .leq => some (.bool (!(ltI b a)))
 | .gtr => some (.bool (ltI b a))
 | .geq => some (.bool (!(ltI a b)))
 | _ => none
noncomputable def minN (a b : Nat) : Nat := match Nat.ble a b with
 | true => a
 | false => b
noncomputable def shiftA (op : BinOp) (k : IntKind) (a : Int) (y : Int) : Option AV :=
 match a, y with
 | .ofNat x, .ofNat y => match op with
  | .shl => some (.int k (wrapA k (.ofNat (Nat.mul x (Nat.pow 2 (minN y k.bits))))))
  | .shr => some (.int k (.ofNat (Nat.div x (Nat.pow 2 (minN y k.bits)))))
  | _ => none
 | _, _ => none
noncomputable def unpackL : Nat → Nat → List Nat
 | 0, _ => []
 | len + 1, n => Nat.mod n 256 :: unpackL len (Nat.div n 256)
noncomputable def natsLess : List Nat → List Nat → Bool
 | _, [] => false
 | [], _ :: _ => true
 | a :: x, b :: y => Nat.blt a b || (Nat.beq a b && natsLess x y)
noncomputable def strOp (op : BinOp) (la a lb b : Nat) : Option AV :=
 match op with
 | .add => match Nat.ble (Nat.add la lb) lim with
  | true => some (.str (Nat.add la lb) (Nat.add a (Nat.mul b (Nat.pow 256 la))))
  | false => none
 | .eql => some (.bool (Nat.beq la lb && Nat.beq a b))
 | .neq => some (.bool (!(Nat.beq la lb && Nat.beq a b)))
 | .lss => some (.bool (natsLess (unpackL la a) (unpackL lb b)))
 | .gtr => some (.bool (!(natsLess (unpackL la a) (unpackL lb b) || (Nat.beq la lb && Nat.beq a b))))
 | .leq => some (.bool (natsLess (unpackL la a) (unpackL lb b) || (Nat.beq la lb && Nat.beq a b)))
 | .geq => some (.bool (!(natsLess (unpackL la a) (unpackL lb b))))
 | _ => none
noncomputable def sub1 (l : List AV) (off n : Nat) : Option (List AV) := match Nat.ble (Nat.add off n) l.length with
 | true => some ((l.drop off).take n)
 | false => none
noncomputable def partA (g : Bool) (size : Nat) (l : List AV) (off : Nat) : Option AV :=
 match g with
 | true => match sub1 l off size with
  | some r => some (.agg r)
  | none => none
 | false => l[off]?
noncomputable def partT (P : Program) (t : TypeId) (l : List AV) (off : Nat) : Option AV :=
 match aggT P t, sizeT P t with
 | some g, some n => partA g n l off
 | _, _ => none
noncomputable def eqFs (P : Program) (f : TypeId → AV → AV → Option Bool) (xs ys : List AV) : List Field → Option Bool
 | [] => some true
 | fd :: l => match fd.name != "_" with
  | true => match partT P fd.type xs fd.offset, partT P fd.type ys fd.offset with
   | some a, some b => match f fd.type a b with
    | some true => eqFs P f xs ys l
    | some false => some false
    | none => none
   | _, _ => none
  | false => eqFs P f xs ys l
noncomputable def eqEs (P : Program) (f : TypeId → AV → AV → Option Bool) (t : TypeId) (n : Nat) (xs ys : List AV) : List Nat → Option Bool
 | [] => some true
 | i :: l => match partT P t xs (Nat.mul i n), partT P t ys (Nat.mul i n) with
  | some a, some b => match f t a b with
   | some true => eqEs P f t n xs ys l
   | some false => some false
   | none => none
  | _, _ => none
noncomputable def eqT1 (P : Program) (f : TypeId → AV → AV → Option Bool) (t : TypeId) (a b : AV) : Option Bool := match P.underlying t, a, b with
  | some .bool, .bool x, .bool y => some (x == y)
  | some (.int _), .int k x, .int k' y => match kindEq k k' with
   | true => some (eqI x y)
   | false => none
  | some .string, .str la x, .str lb y => some (Nat.beq la lb && Nat.beq x y)
  | some (.pointer _), .nilPtr, .nilPtr => some true
  | some (.pointer _), .nilPtr, .ptr _ _ _ => some false
  | some (.pointer _), .ptr _ _ _, .nilPtr => some false
  | some (.interface _), .nilIf, .nilIf => some true
  | some (.interface _), .nilIf, .iface _ _ => some false
  | some (.interface _), .iface _ _, .nilIf => some false
  | some (.slice _), .nilSl, .nilSl => some true
  | some (.slice _), .nilSl, .sl _ _ _ _ _ _ => some false
  | some (.slice _), .sl _ _ _ _ _ _, .nilSl => some false
  | some (.slice _), .nilSl, .emp => some false
  | some (.slice _), .emp, .nilSl => some false
  | some (.map _ _), .nilMap, .nilMap => some true
  | some (.map _ _), .nilMap, .map _ => some false
  | some (.map _ _), .map _, .nilMap => some false
  | some (.func _ _ _), .nilFn, .nilFn => some true
  | some (.func _ _ _), .nilFn, .fn _ _ _ => some false
  | some (.func _ _ _), .fn _ _ _, .nilFn => some false
  | some (.struct fs), .agg xs, .agg ys => match P.stoodInHeld t with
   | true => none
   | false => eqFs P f xs ys fs.toList
  | some (.array n e), .agg xs, .agg ys => match sizeT P e with
   | some s => eqEs P f e s xs ys (List.range n)
   | none => none
  | _, _, _ => none
noncomputable def eqT (P : Program) : Nat → TypeId → AV → AV → Option Bool
 | 0 => fun _ _ _ => none
 | d + 1 => eqT1 P (eqT P d)
noncomputable def guardT (P : Program) (g : Bool) (t : TypeId) (a b : AV) : Bool := match a, b with
 | .nilIf, .nilIf => g
 | .agg _, .agg _ => !(P.eqGuardType P.depth t)
 | _, _ => true
noncomputable def eqA (P : Program) (g : Bool) (t : TypeId) (a b : AV) : Option Bool := match guardT P g t a b with
 | true => eqT P 20 t a b
 | false => none
noncomputable def notB : Option Bool → Option AV
 | some b => some (.bool (!b))
 | none => none
noncomputable def yesB : Option Bool → Option AV
 | some b => some (.bool b)
 | none => none
noncomputable def isConstO : Operand → Bool
 | .const _ => true
 | _ => false
noncomputable def binA (P : Program) (op : BinOp) (g : Bool) (t : TypeId) (a b : AV) : Option AV :=
 match a, b with
 | .int k x, .int k' y => match op with
  | .shl => shiftA .shl k x y
  | .shr => shiftA .shr k x y
  | op => match kindEq k k' with
   | true => arith op k x y
   | false => none
 | .str la x, .str lb y => strOp op la x lb y
 | a, b => match op with
  | .eql => yesB (eqA P g t a b)
  | .neq => notB (eqA P g t a b)
  | _ => none
noncomputable def unA (op : UnOp) (a : AV) : Option AV :=
 match op, a with
 | .neg, .int k n => some (.int k (wrapA k (Int.sub 0 n)))
 | .xor, .int k n => some (.int k (k.wrap (BitVec.ofInt k.bits (if k.signed then -1 else k.max) ^^^ BitVec.ofInt k.bits n).toNat))
 | .not, .bool b => some (.bool (!b))
 | _, _ => none
noncomputable def layL : List AV → Nat → List AV → List AV
 | cs, _, [] => cs
 | cs, i, a :: l => layL (cs.set i a) (i + 1) l
structure Part where
 off : Nat
 size : Nat
 v : OpdF
noncomputable def fillA (cs : List AV) : List Part → Tr AV → Option (List AV)
 | [], _ => some cs
 | p :: ps, E => match p.v.run E with
  | none => none
  | some a => match a.cells with
   | none => none
   | some l => match Nat.beq l.length p.size with
    | true => match Nat.ble (Nat.add p.off p.size) cs.length with
     | true => fillA (layL cs p.off l) ps E
     | false => none
    | false => none
noncomputable def partsAt (place : Nat → Option (Nat × Nat)) : List (Nat × Operand) → Option (List Part)
 | [] => some []
 | (i, x) :: l => match place i with
  | none => none
  | some (o, s) => match partsAt place l with
   | none => none
   | some r => some (⟨o, s, opd x⟩ :: r)
noncomputable def fieldsAt (P : Program) : List Field → Option (List (Nat × Nat))
 | [] => some []
 | f :: l => match sizeT P f.type with
  | none => none
  | some s => match fieldsAt P l with
   | none => none
   | some r => some ((f.offset, s) :: r)
noncomputable def buildF (P : Program) (t : TypeId) (parts : Array (Nat × Operand)) : OpF :=
 match zeroT P t with
 | none => stuckF
 | some cs => match P.underlying t with
  | some (.struct fields) => match fieldsAt P fields.toList with
   | none => stuckF
   | some pl => match partsAt (pl[·]?) parts.toList with
    | none => stuckF
    | some ps => ⟨fun E H => match fillA cs ps E with
     | some l => .val (.agg l) H
     | none => .no⟩
  | some (.array _ elem) => match sizeT P elem with
   | none => stuckF
   | some size => match partsAt (fun i => some (i * size, size)) parts.toList with
    | none => stuckF
    | some ps => ⟨fun E H => match fillA cs ps E with
     | some l => .val (.agg l) H
     | none => .no⟩
  | _ => stuckF
noncomputable def repeatL (l : List AV) : Nat → List AV
 | 0 => []
 | n + 1 => l ++ repeatL l n
noncomputable def buildSliceF (P : Program) (t : TypeId) (len : Nat) (parts : Array (Nat × Operand)) : OpF :=
 match P.underlying t with
 | some (.slice elem) => match sizeT P elem with
  | none => stuckF
  | some size => match zeroT P elem with
   | none => stuckF
   | some z => if len * size ≤ 2 ^ 20 ∧ 0 < size then
     match partsAt (fun i => some (i * size, size)) parts.toList with
     | none => stuckF
     | some ps => ⟨fun E H => match fillA (repeatL z len) ps E with
      | some l => match newObj H l with
       | some (o, H') => .val (.sl o 0 0 len size (some len)) H'
       | none => .no
      | none => .no⟩
    else stuckF
 | _ => stuckF
noncomputable def loadF (P : Program) (t : TypeId) (x : Operand) : OpF :=
 match aggT P t, sizeT P t with
 | some true, some n => unary1 x fun H a => match a with
  | .ptr o v i => match readAt H o v i n with
   | some l => .val (.agg l) H
   | none => .no
  | _ => .no
 | some false, some _ => unary1 x fun H a => match a with
  | .ptr o v i => match readAt H o v i 1 with
   | some [c] => .val c H
   | _ => .no
  | _ => .no
 | _, _ => stuckF
noncomputable def storeF (P : Program) (t : TypeId) (x y : Operand) : OpF :=
 match sizeT P t with
 | some n => binary2 x y fun H a b => match a with
  | .ptr o v i => match b.cells with
   | some l => match Nat.beq l.length n with
    | true => match writeAt H o v i l with
     | some H' => .val undefA H'
     | none => .no
    | false => .no
   | none => .no
  | _ => .no
 | none => stuckF
noncomputable def nilCheckA (H : Heap) (a : AV) : OR := match a with
 | .ptr o v i => .val (.ptr o v i) H
 | .iface t v => .val (.iface t v) H
 | .fn (.func f) l c => .val (.fn (.func f) l c) H
 | .map o => .val (.map o) H
 | _ => .no
noncomputable def convF (P : Program) (src dst : TypeId) (x : Operand) : OpF :=
 match P.underlying src, P.underlying dst with
 | some _, some (.int k) => unary1 x fun H a => match a with
  | .int _ n => .val (.int k (wrapA k n)) H
  | _ => .no
 | some (.slice e), some .string => match P.underlying e with
  | some (.int .u8) => unary1 x fun H a => match a with
   | .nilSl => .val (.str 0 0) H
   | .sl o v i len 1 _ => match readAt H o v i len with
    | some l => match bytesA l with
     | some n => .val (.str len n) H
     | none => .no
    | none => .no
   | _ => .no
  | _ => stuckF
 | some _, some .string => unary1 x fun H a => match a with
  | .str l n => .val (.str l n) H
  | _ => .no
 | some _, some (.slice e) => match P.underlying e, sizeT P e with
  | some (.int .u8), some 1 => unary1 x fun H a => match a with
   | .str len n => match newObj H ((unpackL len n).map fun (b : Nat) => AV.int .u8 (Int.ofNat b)) with
    | some (o, H') => .val (.sl o 0 0 len 1 none) H'
    | none => .no
   | _ => .no
  | _, _ => stuckF
 | _, _ => stuckF
where
 bytesA : List AV → Option Nat
  | [] => some 0
  | .int .u8 (.ofNat b) :: l => if Nat.blt b 256 then match bytesA l with
   | some n => some (b + 256 * n)
   | none => none
   else none
  | _ => none
noncomputable def mkIfaceF (P : Program) (t : TypeId) (x : Operand) : OpF :=
 match P.underlying t with
 | some (.interface _) => stuckF
 | some _ => unary1 x fun H a => .val (.iface t a) H
 | none => stuckF
noncomputable def mkFuncF (f : Fn) (first cap : Array Operand) : OpF :=
 ⟨fun E H => match (opds first.toList).run E with
  | some l => match (opds cap.toList).run E with
   | some r => .val (.fn f l r) H
   | none => .no
  | none => .no⟩
noncomputable def pushMap (H : Heap) : OR := .val (.map H.next) (H.push (.map [] 0))
noncomputable def mkMapF (P : Program) (t : TypeId) (r : Option Operand) : OpF :=
 match r with
 | none => ⟨fun _ H => pushMap H⟩
 | some x => match P.underlying t with
  | some (.map _ _) => unary1 x fun H a => match a with
   | .int _ _ => pushMap H
   | _ => .no
  | _ => stuckF
noncomputable def mkSliceF (P : Program) (t : TypeId) (l c : Operand) : OpF :=
 match P.underlying t with
 | some (.slice elem) => match P.info? elem with
  | none => stuckF
  | some i => match zeroT P elem with
   | none => stuckF
   | some z => if 0 < i.size ∧ i.bytes ≤ 2 ^ 16 then binary2 l c fun H a b => match a, b with
    | .int .i64 (.ofNat l), .int .i64 (.ofNat c) => match Nat.ble l c with
     | true => match Nat.ble c 1048576 with
      | true => match newObj H (repeatL z c) with
       | some (o, H') => .val (.sl o 0 0 l i.size (some c)) H'
       | none => .no
      | false => .no
     | false => .no
    | _, _ => .no
    else stuckF
 | _ => stuckF
structure OptF where run : Tr AV → Option (Option Nat)
noncomputable def optF : Option Operand → OptF
 | none => ⟨fun _ => some none⟩
 | some x => ⟨fun E => match (opd x).run E with
  | some (.int _ (.ofNat n)) => some (some n)
  | _ => none⟩
noncomputable def cutSl (l h m o v i esz : Nat) : AV :=
 match Nat.beq l m with
 | true => match Nat.beq l 0 with
  | true => .sl o v i 0 esz (some 0)
  | false => .emp
 | false => .sl o v (Nat.add i (Nat.mul l esz)) (Nat.sub h l) esz (some (Nat.sub m l))
noncomputable def sliceSl' (l h most : Nat) (mx : Option Nat) (o v i esz : Nat) (room : Option Nat) : Option AV :=
 match Nat.ble l h with
 | false => none
 | true => match Nat.ble h most with
  | false => none
  | true => match mx with
   | some m => match Nat.ble h m with
    | false => none
    | true => match Nat.ble m most with
     | false => none
     | true => some (cutSl l h m o v i esz)
   | none => match room with
    | some r => some (cutSl l h r o v i esz)
    | none => match Nat.beq l 0 with
     | true => some (.sl o v i h esz none)
     | false => match Nat.beq l h with
      | true => some .emp
      | false => some (.sl o v (Nat.add i (Nat.mul l esz)) (Nat.sub h l) esz none)
noncomputable def sliceSl (size : Nat) (lo hi mx : Option Nat) (o v i len esz : Nat) (room : Option Nat) : Option AV :=
 match Nat.beq esz size with
 | false => none
 | true => sliceSl' (lo.getD 0) (hi.getD len) (room.getD len) mx o v i esz room
noncomputable def sliceF (P : Program) (t : TypeId) (x : Operand) (lo hi mx : Option Operand) : OpF :=
 match P.underlying t with
 | some .string => match mx with
  | some _ => stuckF
  | none => ⟨fun E H => match (opd x).run E, (optF lo).run E, (optF hi).run E with
   | some (.str len n), some lo, some hi =>
    let l := lo.getD 0
    let h := hi.getD len
    match Nat.ble l h with
    | true => match Nat.ble h len with
     | true => .val (.str (Nat.sub h l) (Nat.mod (Nat.div n (Nat.pow 256 l)) (Nat.pow 256 (Nat.sub h l)))) H
     | false => .no
    | false => .no
   | _, _, _ => .no⟩
 | some (.slice elem) => if mx.isSome && hi.isNone then stuckF else match sizeT P elem with
  | none => stuckF
  | some size => ⟨fun E H => match (opd x).run E, (optF lo).run E, (optF hi).run E, (optF mx).run E with
   | some (.sl o v i len esz room), some lo, some hi, some mx => ret1 H (sliceSl size lo hi mx o v i len esz room)
   | some .nilSl, some lo, some hi, some none => match Nat.beq (Nat.add (lo.getD 0) (hi.getD 0)) 0 with
    | true => .val .nilSl H
    | false => .no
   | some .emp, some lo, some hi, some none => match Nat.beq (Nat.add (lo.getD 0) (hi.getD 0)) 0 with
    | true => .val .emp H
    | false => .no
   | _, _, _, _ => .no⟩
 | some (.array n elem) => if mx.isSome && hi.isNone then stuckF else match sizeT P elem with
  | none => stuckF
  | some size => ⟨fun E H => match (opd x).run E, (optF lo).run E, (optF hi).run E, (optF mx).run E with
   | some (.ptr o v i), some lo, some hi, some mx => match H.get o with
    | some (.cells _ clen ver false) => match Nat.beq v ver with
     | true => match Nat.ble (Nat.add i (Nat.mul n size)) clen with
      | true => ret1 H (sliceSl size lo hi mx o v i n size (some n))
      | false => .no
     | false => .no
    | _ => .no
   | _, _, _, _ => .no⟩
 | _ => stuckF
noncomputable def fieldAddrF (P : Program) (s : TypeId) (x : Operand) (f : Nat) : OpF :=
 match P.underlying s with
 | some (.struct fields) => match fields[f]? with
  | none => stuckF
  | some fd => match sizeT P fd.type with
   | none => stuckF
   | some 0 => stuckF
   | some _ => let off := fd.offset; unary1 x fun H a => match a with
    | .ptr o v i => .val (.ptr o v (Nat.add i off)) H
    | _ => .no
 | _ => stuckF
noncomputable def fieldF (P : Program) (t : TypeId) (x : Operand) (f : Nat) : OpF :=
 match P.underlying t with
 | some (.struct fields) => match fields[f]? with
  | none => stuckF
  | some fd => match aggT P fd.type, sizeT P fd.type with
   | some g, some n => let off := fd.offset; unary1 x fun H a => match a with
    | .agg l => ret1 H (partA g n l off)
    | _ => .no
   | _, _ => stuckF
 | _ => stuckF
noncomputable def indexAddrF (P : Program) (t : TypeId) (x ix : Operand) : OpF :=
 match P.underlying t with
 | some (.slice elem) => match sizeT P elem with
  | none => stuckF
  | some size => binary2 x ix fun H a b => match a, b with
   | .sl o v i len esz _, .int _ (.ofNat n) => match Nat.blt n len with
    | true => match Nat.beq esz size with
     | true => .val (.ptr o v (Nat.add i (Nat.mul n esz))) H
     | false => .no
    | false => .no
   | _, _ => .no
 | some (.array len elem) => match sizeT P elem with
  | none => stuckF
  | some size => binary2 x ix fun H a b => match a, b with
   | .ptr o v i, .int _ (.ofNat n) => match Nat.blt n len with
    | true => .val (.ptr o v (Nat.add i (Nat.mul n size))) H
    | false => .no
   | _, _ => .no
 | _ => stuckF
noncomputable def indexF (P : Program) (t : TypeId) (x ix : Operand) : OpF :=
 match P.underlying t with
 | some .string => binary2 x ix fun H a b => match a, b with
  | .str len n, .int _ (.ofNat i) => match Nat.blt i len with
   | true => .val (.int .u8 (Int.ofNat (Nat.mod (Nat.div n (Nat.pow 256 i)) 256))) H
   | false => .no
  | _, _ => .no
 | some (.array len elem) => match aggT P elem, sizeT P elem with
  | some g, some size => binary2 x ix fun H a b => match a, b with
   | .agg l, .int _ (.ofNat n) => match Nat.blt n len with
    | true => ret1 H (partA g size l (Nat.mul n size))
    | false => .no
   | _, _ => .no
  | _, _ => stuckF
 | _ => stuckF
noncomputable def keyEq (d : TypeDesc) (a b : AV) : Option Bool := match d, a, b with
 | .int _, .int k a, .int k' b => match kindEq k k' with
  | true => some (eqI a b)
  | false => none
 | .string, .str la a, .str lb b => some (Nat.beq la lb && Nat.beq a b)
 | .bool, .bool a, .bool b => some (a == b)
 | _, _, _ => none
noncomputable def keyT (P : Program) (t : TypeId) : Option TypeDesc := match P.underlying t with
 | some .bool => some .bool
 | some (.int k) => some (.int k)
 | some .string => some .string
 | _ => none
noncomputable def findA (d : TypeDesc) (k : AV) : List (AV × AV × Nat) → Option (Option AV)
 | [] => some none
 | (k', v, _) :: l => match keyEq d k k' with
  | some true => some (some v)
  | some false => findA d k l
  | none => none
noncomputable def setMapA (d : TypeDesc) (k v : AV) (clock : Nat) : List (AV × AV × Nat) → Option (List (AV × AV × Nat) × Bool)
 | [] => some ([(k, v, clock)], true)
 | (k', v', b) :: l => match keyEq d k k' with
  | some true => some ((k, v, b) :: l, false)
  | some false => match setMapA d k v clock l with
   | some (r, n) => some ((k', v', b) :: r, n)
   | none => none
  | none => none
noncomputable def delMapA (d : TypeDesc) (k : AV) : List (AV × AV × Nat) → Option (List (AV × AV × Nat))
 | [] => some []
 | (k', v', b) :: l => match keyEq d k k' with
  | some true => some l
  | some false => match delMapA d k l with
   | some r => some ((k', v', b) :: r)
   | none => none
  | none => none
noncomputable def mapOf (H : Heap) (a : AV) : Option (List (AV × AV × Nat)) := match a with
 | .nilMap => some []
 | .map o => match H.get o with
  | some (.map es _) => some es
  | _ => none
 | _ => none
noncomputable def lookupF (P : Program) (t : TypeId) (x ix : Operand) (ok : Bool) : OpF :=
 match P.underlying t with
 | some (.map key elem) => match keyT P key, zeroV P elem with
  | some d, some z => binary2 x ix fun H a b => match mapOf H a with
   | none => .no
   | some es => match findA d b es with
    | some (some v) => .val (if ok then .tup [v, .bool true] else v) H
    | some none => .val (if ok then .tup [z, .bool false] else z) H
    | none => .no
  | _, _ => stuckF
 | _ => stuckF
noncomputable def mapUpdateF (P : Program) (t : TypeId) (m k x : Operand) : OpF :=
 match P.underlying t with
 | some (.map key _) => match keyT P key with
  | some d => ⟨fun E H => match (opd m).run E, (opd k).run E, (opd x).run E with
   | some (.map o), some k, some v => match H.get o with
    | some (.map es clock) => match setMapA d k v clock es with
     | some (es', true) => .val undefA (H.put o (.map es' (Nat.add clock 1)))
     | some (es', false) => .val undefA (H.put o (.map es' clock))
     | none => .no
    | _ => .no
   | _, _, _ => .no⟩
  | none => stuckF
 | _ => stuckF
noncomputable def rangeF (P : Program) (t : TypeId) (x : Operand) : OpF :=
 match P.underlying t with
 | some .string => unary1 x fun H a => match a with
  | .str len n => .val (.ptr H.next 0 0) (H.push (.iter len n 0))
  | _ => .no
 | _ => stuckF
noncomputable def nextF (x : Operand) (isString : Bool) : OpF :=
 if isString then unary1 x fun H a => match a with
  | .ptr o 0 0 => match H.get o with
   | some (.iter len n pos) => match Nat.blt pos len with
    | true => match Nat.blt (Nat.mod (Nat.div n (Nat.pow 256 pos)) 256) 128 with
     | true => .val (.tup [.bool true, .int .i64 (Int.ofNat pos), .int .i32 (Int.ofNat (Nat.mod (Nat.div n (Nat.pow 256 pos)) 256))]) (H.put o (.iter len n (Nat.add pos 1)))
     | false => .no
    | false => .val (.tup [.bool false]) H
   | _ => .no
  | _ => .no
 else stuckF
noncomputable def assertF (P : Program) (x : Operand) (asserted : TypeId) (ok : Bool) : OpF :=
 match P.underlying asserted with
 | some (.interface _) => stuckF
 | some _ => match zeroV P asserted with
  | none => stuckF
  | some z => unary1 x fun H a => match a with
   | .nilIf => if ok then .val (.tup [z, .bool false]) H else .no
   | .iface t v => match Nat.beq t asserted with
    | true => .val (if ok then .tup [v, .bool true] else v) H
    | false => if ok then .val (.tup [z, .bool false]) H else .no
   | _ => .no
 | none => stuckF
noncomputable def extractF (x : Operand) (i : Nat) : OpF := unary1 x fun H a => match a with
 | .tup l => ret1 H l[i]?
 | _ => .no
noncomputable def lenF (P : Program) (t : TypeId) (x : Operand) : OpF :=
 match P.underlying t with
 | some .string => unary1 x fun H a => match a with
  | .str l _ => .val (.int .i64 (Int.ofNat l)) H
  | _ => .no
 | some (.slice _) => unary1 x fun H a => match a with
  | .sl _ _ _ len _ _ => .val (.int .i64 (Int.ofNat len)) H
  | .nilSl => .val (.int .i64 0) H
  | .emp => .val (.int .i64 0) H
  | _ => .no
 | some (.map _ _) => unary1 x fun H a => match a with
  | .nilMap => .val (.int .i64 0) H
  | .map o => match H.get o with
   | some (.map es _) => .val (.int .i64 (Int.ofNat es.length)) H
   | _ => .no
  | _ => .no
 | some (.array n _) => unary1 x fun H _ => .val (.int .i64 (Int.ofNat n)) H
 | _ => stuckF
noncomputable def capF (P : Program) (t : TypeId) (x : Operand) : OpF :=
 match P.underlying t with
 | some (.slice _) => unary1 x fun H a => match a with
  | .nilSl => .val (.int .i64 0) H
  | .sl _ _ _ _ _ (some r) => .val (.int .i64 (Int.ofNat r)) H
  | _ => .no
 | _ => stuckF
noncomputable def maxA (mx : Bool) : AV → AV → Option AV
 | .int k x, .int k' y => match kindEq k k' with
  | true => match mx with
   | true => match ltI x y with
    | true => some (.int k y)
    | false => some (.int k x)
   | false => match ltI y x with
    | true => some (.int k y)
    | false => some (.int k x)
  | false => none
 | _, _ => none
noncomputable def foldMax (mx : Bool) : AV → List AV → Option AV
 | a, [] => some a
 | a, b :: l => match maxA mx a b with
  | some c => foldMax mx c l
  | none => none
noncomputable def maxF (mx : Bool) (args : List Operand) : OpF := ⟨fun E H => match (opds args).run E with
 | some (.int k n :: l) => ret1 H (foldMax mx (.int k n) l)
 | _ => .no⟩
noncomputable def takeA (H : Heap) (size : Nat) : AV → Option (Nat × List AV)
 | .nilSl => some (0, [])
 | .emp => some (0, [])
 | .sl o v i len esz _ => match Nat.beq esz size with
  | true => match readAt H o v i (Nat.mul len size) with
   | some l => some (len, l)
   | none => none
  | false => none
 | .str len n => if Nat.beq size 1 then some (len, (unpackL len n).map fun (b : Nat) => AV.int .u8 (Int.ofNat b)) else none
 | _ => none
noncomputable def growA (H : Heap) (n size : Nat) (l : List AV) : OR :=
 match newObj H l with
 | some (o, H') => .val (.sl o 0 0 n size none) H'
 | none => .no
noncomputable def appendA (H : Heap) (size : Nat) (s : AV) (n : Nat) (new : List AV) : OR :=
 match Nat.beq n 0 with
 | true => match s with
  | .nilSl => .val .nilSl H
  | .emp => .val .emp H
  | .sl o v i len esz room => .val (.sl o v i len esz room) H
  | _ => .no
 | false => match s with
  | .nilSl => growA H n size new
  | .sl o v i len esz room => match Nat.beq esz size && Nat.ble len lim with
   | false => .no
   | true => match room with
    | some r => match Nat.ble (Nat.add len n) r with
     | true => match writeAt H o v (Nat.add i (Nat.mul len esz)) new with
      | some H' => .val (.sl o v i (Nat.add len n) esz (some r)) H'
      | none => .no
     | false => match readAt H o v i (Nat.mul len size) with
      | some old => growA H (Nat.add len n) size (old ++ new)
      | none => .no
    | none => match H.get o with
     | some (.cells c clen ver false) => match Nat.beq v ver with
      | false => .no
      | true => match Nat.ble (Nat.add i (Nat.mul (Nat.add len n) esz)) clen with
       | true => match writeAt H o v (Nat.add i (Nat.mul len esz)) new with
        | some H' => .val (.sl o v i (Nat.add len n) esz none) H'
        | none => .no
       | false => match Nat.beq i 0 with
        | false => .no
        | true => match Nat.beq (Nat.mul len esz) clen with
         | false => .no
         | true => .val (.sl o (Nat.add ver 1) 0 (Nat.add len n) esz none) (H.put o (.cells (ofListFrom new clen c) (Nat.add clen new.length) (Nat.add ver 1) false))
     | _ => .no
  | _ => .no
noncomputable def appendZ (P : Program) (elem : TypeId) (s x : Operand) : OpF :=
 match P.info? elem, zeroT P elem with
 | some i, some z => if 0 < i.size ∧ i.bytes ≤ 65536 then binary2 s x fun H a b => match b with
   | .int .i64 (.ofNat n) => match Nat.ble n 1048576 with
    | true => appendA H i.size a n (repeatL z n)
    | false => .no
   | _ => .no
  else stuckF
 | _, _ => stuckF
noncomputable def appendG (P : Program) (elem : TypeId) (s x : Operand) : OpF :=
 match P.info? elem, zeroT P elem with
 | some i, some _ => if 0 < i.size ∧ i.bytes ≤ 65536 then binary2 s x fun H a b => match takeA H i.size b with
   | some (n, l) => match Nat.ble n 1048576 with
    | true => appendA H i.size a n l
    | false => .no
   | none => .no
  else stuckF
 | _, _ => stuckF
noncomputable def appendF (P : Program) (ts : Array TypeId) (args : Array Operand) : OpF :=
 match ts.toList, args.toList with
 | [st, xt], [s, x] => match P.underlying st, P.underlying xt with
  | some (.slice elem), some (.int _) => appendZ P elem s x
  | some (.slice elem), some (.slice _) => appendG P elem s x
  | some (.slice elem), some .string => appendG P elem s x
  | _, _ => stuckF
 | _, _ => stuckF
noncomputable def copyF (P : Program) (ts : Array TypeId) (args : Array Operand) : OpF :=
 match ts.toList, args.toList with
 | [st, _], [d, x] => match P.underlying st with
  | some (.slice elem) => match sizeT P elem with
   | none => stuckF
   | some size => if 0 < size then binary2 d x fun H a b => match takeA H size b with
    | some (n, l) => match a with
     | .nilSl => .val (.int .i64 0) H
     | .emp => .val (.int .i64 0) H
     | .sl o v i len esz _ => match Nat.beq esz size with
      | true => match writeAt H o v i (l.take (Nat.mul (minN n len) size)) with
       | some H' => .val (.int .i64 (Int.ofNat (minN n len))) H'
       | none => .no
      | false => .no
     | _ => .no
    | none => .no
    else stuckF
  | _ => stuckF
 | _, _ => stuckF
noncomputable def clearF (P : Program) (ts : Array TypeId) (args : Array Operand) : OpF :=
 match ts.toList, args.toList with
 | [st], [x] => match P.underlying st with
  | some (.slice elem) => match sizeT P elem, zeroT P elem with
   | some size, some z => if 0 < size then unary1 x fun H a => match a with
    | .nilSl => .val undefA H
    | .emp => .val undefA H
    | .sl o v i len esz _ => match Nat.beq esz size with
     | true => match writeAt H o v i (repeatL z len) with
      | some H' => .val undefA H'
      | none => .no
     | false => .no
    | _ => .no
    else stuckF
   | _, _ => stuckF
  | _ => stuckF
 | _, _ => stuckF
noncomputable def deleteF (P : Program) (ts : Array TypeId) (args : Array Operand) : OpF :=
 match ts.toList, args.toList with
 | [mt, _], [m, k] => match P.underlying mt with
  | some (.map key _) => match keyT P key with
   | some d => binary2 m k fun H a b => match a with
    | .map o => match H.get o with
     | some (.map es clock) => match delMapA d b es with
      | some es' => .val undefA (H.put o (.map es' clock))
      | none => .no
     | _ => .no
    | _ => .no
   | none => stuckF
  | _ => stuckF
 | _, _ => stuckF
noncomputable def callable (P : Program) (f : Nat) : Bool := match P.funcs[f]? with
 | some fn => fn.name != "runtime.NumGoroutine" && fn.body.isSome
 | none => false
noncomputable def methodA (P : Program) (t : TypeId) (name : String) : Option Nat := match P.info? t with
 | some i => match i.methods.find? (·.name == name) with
  | some m => if m.path.isEmpty then match m.func, P.underlying t with
   | some (f, true), some (.pointer _) => some f
   | some (_, false), some (.pointer _) => none
   | some (f, false), some _ => some f
   | _, _ => none
   else none
  | none => none
 | none => none
noncomputable def callFn (P : Program) (f : AV) (args : List AV) : OR := match f with
 | .fn (.func f) first cap => if callable P f then .call (.fn f) (first ++ args ++ cap) else .no
 | .fn (.yield l) [] _ => .call (.yield l) args
 | _ => .no
noncomputable def isClone (P : Program) (f : Nat) : Bool := match P.funcs[f]? with
 | some fn => fn.name == "maps.clone" && fn.origin == "" && fn.body.isNone
 | none => false
noncomputable def cloneA (H : Heap) : List AV → OR
 | [.iface t (.map o)] => match H.get o with
  | some (.map es ck) => .val (.iface t (.map H.next)) (H.push (.map es ck))
  | _ => .no
 | _ => .no
noncomputable def callVal (P : Program) (H : Heap) (g : AV) (args : List AV) : OR := match g with
 | .fn (.func f) [] [] => match isClone P f with
  | true => cloneA H args
  | false => callFn P g args
 | _ => callFn P g args
noncomputable def callF (P : Program) (c : Call) : OpF :=
 match c.callee with
 | .builtin b => match b with
  | .len => match c.argTypes.toList, c.args.toList with
   | [t], [x] => lenF P t x
   | _, _ => stuckF
  | .cap => match c.argTypes.toList, c.args.toList with
   | [t], [x] => capF P t x
   | _, _ => stuckF
  | .max => maxF true c.args.toList
  | .min => maxF false c.args.toList
  | .append => appendF P c.argTypes c.args
  | .copy => copyF P c.argTypes c.args
  | .clear => clearF P c.argTypes c.args
  | .delete => deleteF P c.argTypes c.args
  | _ => stuckF
 | .value f => ⟨fun E H => match (opd f).run E with
  | some g => match (opds c.args.toList).run E with
   | some l => callVal P H g l
   | none => .no
  | none => .no⟩
 | .invoke r name => ⟨fun E _ => match (opd r).run E with
  | some (.iface t v) => match methodA P t name with
   | some f => match (opds c.args.toList).run E with
    | some l => if callable P f then .call (.fn f) (v :: l) else .no
    | none => .no
   | none => .no
  | _ => .no⟩
noncomputable def compOp (P : Program) (o : Op) : OpF :=
 match o with
 | .move x | .assign x => unary1 x fun H a => .val a H
 | .pick c a b => ⟨fun E H => match (opd c).run E with
  | some (.bool true) => ret1 H ((opd a).run E)
  | some (.bool false) => ret1 H ((opd b).run E)
  | _ => .no⟩
 | .alloc t => match zeroT P t with
  | some l => ⟨fun _ H => newVarA H l⟩
  | none => stuckF
 | .box _ x => unary1 x fun H a => match a.cells with
  | some l => newVarA H l
  | none => .no
 | .build t parts => buildF P t parts
 | .buildSlice t len parts => buildSliceF P t len parts
 | .load t a => loadF P t a
 | .store t a x => storeF P t a x
 | .nilCheck x => unary1 x nilCheckA
 | .binOp op t x y _ => let g := isConstO x || isConstO y; binary2 x y fun H a b => ret1 H (binA P op g t a b)
 | .unOp op _ x => unary1 x fun H a => ret1 H (unA op a)
 | .convert s d x => convF P s d x
 | .makeInterface t x => mkIfaceF P t x
 | .makeFunc f first cap => match f with
  | .yield _ => stuckF
  | f => mkFuncF f first cap
 | .makeMap t r => mkMapF P t r
 | .makeSlice t l c => mkSliceF P t l c
 | .slice t x lo hi mx => sliceF P t x lo hi mx
 | .fieldAddr s x f => fieldAddrF P s x f
 | .field t x f => fieldF P t x f
 | .indexAddr t x i => indexAddrF P t x i
 | .index t x i => indexF P t x i
 | .lookup t x i ok => lookupF P t x i ok
 | .mapUpdate t m k x | .insert t m k x => mapUpdateF P t m k x
 | .range t x => rangeF P t x
 | .next it s => nextF it s
 | .typeAssert x _ t ok => assertF P x t ok
 | .extract t i => extractF t i
 | .call c => callF P c
 | _ => stuckF
inductive RV where
 | no
 | ok (v : AV) (H : Heap)
abbrev CallT := Tgt → List AV → Heap → RV
inductive OE where
 | no
 | ok (E : Tr AV) (H : Heap)
structure SeqF where run : CallT → Tr AV → Heap → OE
structure PutF where run : AV → Tr AV → Tr AV
noncomputable def putF (n : Nat) (d : Option Tmp) : Option PutF :=
 match d with
 | none => some ⟨fun _ E => E⟩
 | some d => if d < n then some ⟨fun a E => setP a (pathOf d) E⟩ else none
structure GuardF where run : Tr AV → Bool
noncomputable def guardF (ops : Array Oper) (o : Oper) : GuardF :=
 match o.guard with
 | none => ⟨fun _ => true⟩
 | some (j, want) => match (ops[j]?).bind (·.dst) with
  | none => ⟨fun _ => false⟩
  | some d => if d ≤ lim then ⟨fun E => match getP (pathOf d) E with
   | some (.bool b) => match b with
    | true => want
    | false => !want
   | _ => false⟩ else ⟨fun _ => false⟩
noncomputable def compOper (P : Program) (n : Nat) (ops : Array Oper) (o : Oper) : SeqF :=
 match putF n o.dst with
 | none => ⟨fun _ _ _ => .no⟩
 | some p => ⟨fun c E H => Bool.rec (.ok (p.run undefA E) H)
   (OR.rec .no (fun v H' => .ok (p.run v E) H') (fun t args => RV.rec .no (fun v H' => .ok (p.run v E) H') (c t args H)) ((compOp P o.op).run E H))
   ((guardF ops o).run E)⟩
noncomputable def compOps (P : Program) (n : Nat) (ops : Array Oper) : List Oper → SeqF
 | [] => ⟨fun _ E H => .ok E H⟩
 | o :: l => ⟨fun c E H => OE.rec .no (fun E' H' => (compOps P n ops l).run c E' H') ((compOper P n ops o).run c E H)⟩
inductive Cls where
 | quiet | rd | ch | al
noncomputable def isMapT (P : Program) (t : TypeId) : Bool := match P.underlying t with
 | some (.map _ _) => true
 | _ => false
noncomputable def isArrT (P : Program) (t : TypeId) : Bool := match P.underlying t with
 | some (.array _ _) => true
 | _ => false
noncomputable def isSlT (P : Program) (t : TypeId) : Bool := match P.underlying t with
 | some (.slice _) => true
 | _ => false
noncomputable def clsCall (P : Program) (c : Call) : Cls := match c.callee with
 | .builtin .len => match c.argTypes.toList with
  | [t] => if isMapT P t then .rd else .quiet
  | _ => .ch
 | .builtin .cap | .builtin .max | .builtin .min => .quiet
 | _ => .ch
noncomputable def cls (P : Program) (o : Op) : Cls :=
 match o with
 | .move _ | .assign _ | .pick _ _ _ | .build _ _ | .nilCheck _ | .binOp _ _ _ _ _ | .unOp _ _ _ | .makeInterface _ _ | .makeFunc _ _ _ | .fieldAddr _ _ _
 | .field _ _ _ | .indexAddr _ _ _ | .index _ _ _ | .typeAssert _ _ _ _ | .extract _ _ => .quiet
 | .slice t _ _ _ _ => if isArrT P t then .rd else .quiet
 | .convert s d _ => if isSlT P d then .ch else if isSlT P s then .rd else .quiet
 | .load _ _ | .lookup _ _ _ _ => .rd
 | .call c => clsCall P c
 | .alloc _ | .box _ _ | .buildSlice _ _ _ | .makeSlice _ _ _ | .makeMap _ _ => .al
 | _ => .ch
noncomputable def maskOf (acc : List Nat) : List Edge → Nat
 | [] => 0
 | e :: l => match Region.binds .any e with
  | true => Nat.lor (Nat.lor (2 ^ e.on) (acc.getD e.on 0)) (maskOf acc l)
  | false => maskOf acc l
noncomputable def bitsOf : List Nat → Nat
 | [] => 0
 | t :: l => Nat.lor (2 ^ t) (bitsOf l)
noncomputable def tmpsOf : List Operand → List Nat
 | [] => []
 | .tmp t :: l => t :: tmpsOf l
 | _ :: l => tmpsOf l
noncomputable def looks (ops : Array Oper) (o : Oper) : List Nat :=
 tmpsOf o.op.operands.toList ++ (match o.guard with
  | some (j, _) => ((ops[j]?).bind (·.dst)).toList
  | none => [])
structure DOp where
 o : Oper
 i : Nat
 m : Nat
 lm : Nat
 c : Cls
noncomputable def dops (P : Program) (ops : Array Oper) : List Oper → List Nat → Nat → List DOp
 | [], _, _ => []
 | o :: l, acc, i => ⟨o, i, maskOf acc o.after.toList, bitsOf (looks ops o), cls P o.op⟩ :: dops P ops l (acc ++ [maskOf acc o.after.toList]) (i + 1)
noncomputable def isCh (x : DOp) : Bool := match x.c with
 | .ch => true
 | _ => false
noncomputable def isRd (x : DOp) : Bool := match x.c with
 | .rd => true
 | .al => true
 | _ => false
noncomputable def isQuiet (x : DOp) : Bool := match x.c with
 | .quiet => true
 | _ => false
noncomputable def lookOk (x y : DOp) : Bool := match y.o.dst with
 | none => true
 | some d => match Nat.testBit x.lm d with
  | false => true
  | true => match Nat.beq x.i y.i with
   | true => !(isRd x)
   | false => match Nat.testBit x.m y.i with
    | true => true
    | false => match Nat.testBit y.m x.i with
     | true => !(isRd x)
     | false => false
noncomputable def allB {α : Type} (f : α → Bool) : List α → Bool
 | [] => true
 | a :: l => match f a with
  | true => allB f l
  | false => false
noncomputable def looksOk (L : List DOp) : Bool := allB (fun x => allB (lookOk x) L) L
noncomputable def dstsOk : List DOp → Nat → Bool
 | [], _ => true
 | x :: l, seen => match x.o.dst with
  | none => dstsOk l seen
  | some d => match Nat.testBit seen d with
   | true => false
   | false => dstsOk l (Nat.lor (2 ^ d) seen)
noncomputable def topo : List DOp → Nat → Nat → Option Nat
 | [], seen, _ => some seen
 | x :: l, seen, chs => match Nat.beq (Nat.land x.m seen) x.m with
  | false => none
  | true => match Nat.testBit seen x.i with
   | true => none
   | false => match isQuiet x with
    | true => topo l (Nat.lor (2 ^ x.i) seen) chs
    | false => match Nat.beq (Nat.land chs x.m) chs with
     | false => none
     | true => match isCh x with
      | true => topo l (Nat.lor (2 ^ x.i) seen) (Nat.lor (2 ^ x.i) chs)
      | false => topo l (Nat.lor (2 ^ x.i) seen) chs
noncomputable def filterB {α : Type} (f : α → Bool) : List α → List α
 | [] => []
 | a :: l => match f a with
  | true => a :: filterB f l
  | false => filterB f l
noncomputable def rank (x : DOp) : List DOp → Nat
 | [] => 0
 | c :: l => match Nat.testBit x.m c.i with
  | true => Nat.succ (rank x l)
  | false => rank x l
noncomputable def phase (L chain : List DOp) (p : Nat) : List DOp := filterB (fun x => match isCh x with
 | true => false
 | false => Nat.beq (rank x chain) p) L
noncomputable def ordFrom (L chain : List DOp) : List DOp → Nat → List DOp
 | [], _ => []
 | c :: rest, p => c :: (phase L chain p ++ ordFrom L chain rest (p + 1))
noncomputable def ordOf (L chain : List DOp) : List DOp := phase L chain 0 ++ ordFrom L chain chain 1
noncomputable def eqL {α : Type} (f : α → α → Bool) : List α → List α → Bool
 | [], [] => true
 | a :: l, b :: r => match f a b with
  | true => eqL f l r
  | false => false
 | _, _ => false
noncomputable def eqAV : Nat → AV → AV → Bool
 | 0, _, _ => false
 | n + 1, a, b => match a, b with
  | .bool x, .bool y => x == y
  | .int k x, .int k' y => kindEq k k' && eqI x y
  | .str l x, .str m y => Nat.beq l m && Nat.beq x y
  | .nilPtr, .nilPtr => true
  | .ptr o v i, .ptr o' v' i' => Nat.beq o o' && Nat.beq v v' && Nat.beq i i'
  | .nilSl, .nilSl => true
  | .sl o v i l e r, .sl o' v' i' l' e' r' => Nat.beq o o' && Nat.beq v v' && Nat.beq i i' && Nat.beq l l' && Nat.beq e e' && r == r'
  | .emp, .emp => true
  | .nilMap, .nilMap => true
  | .map o, .map o' => Nat.beq o o'
  | .nilFn, .nilFn => true
  | .fn (.func f) x y, .fn (.func g) x' y' => Nat.beq f g && eqL (eqAV n) x x' && eqL (eqAV n) y y'
  | .fn (.yield f) x y, .fn (.yield g) x' y' => Nat.beq f g && eqL (eqAV n) x x' && eqL (eqAV n) y y'
  | .nilIf, .nilIf => true
  | .iface t v, .iface t' v' => Nat.beq t t' && eqAV n v v'
  | .agg x, .agg y => eqL (eqAV n) x y
  | .tup x, .tup y => eqL (eqAV n) x y
  | _, _ => false
noncomputable def idOf : AV → Option Nat
 | .ptr o _ _ => some o
 | .sl o _ _ _ _ _ => some o
 | .map o => some o
 | _ => none
noncomputable def reId (id : Nat) : AV → AV
 | .ptr _ v i => .ptr id v i
 | .sl _ v i l e r => .sl id v i l e r
 | .map _ => .map id
 | v => v
noncomputable def eqCells (c c' : Tr AV) (len : Nat) : Bool := match getCells c 0 len, getCells c' 0 len with
 | some l, some l' => eqL (eqAV 30) l l'
 | _, _ => false
noncomputable def eqObj : AObj → AObj → Bool
 | .cells c len ver ro, .cells c' len' ver' ro' => Nat.beq len len' && Nat.beq ver ver' && ro == ro' && eqCells c c' len
 | .map [] k, .map [] k' => Nat.beq k k'
 | _, _ => false
noncomputable def sameB {α : Type} (b : Bool) (x y : α) : Bool := match b with
 | true => true
 | false => @decide (x = y) (Classical.propDecidable _)
noncomputable def reMade (v v' : AV) (H H' : Heap) : Bool := match idOf v with
 | none => false
 | some id => match sameB (eqAV 30 v (reId id v')) v (reId id v') with
  | false => false
  | true => match H.get id, H'.get H.next with
   | some a, some b => sameB (eqObj a b) a b
   | _, _ => false
structure ChkF where run : Tr AV → Heap → Bool
noncomputable def recheck (P : Program) (ops : Array Oper) (x : DOp) : ChkF :=
 match x.o.dst with
 | none => ⟨fun _ _ => false⟩
 | some d => ⟨fun E H => match (guardF ops x.o).run E with
  | false => true
  | true => match getP (pathOf d) E with
   | none => false
   | some v => match (compOp P x.o.op).run E H with
    | .val v' H' => match x.c with
     | .al => reMade v v' H H'
     | _ => sameB (eqAV 30 v v') v v'
    | _ => false⟩
noncomputable def rechecks (P : Program) (ops : Array Oper) : List DOp → ChkF
 | [] => ⟨fun _ _ => true⟩
 | x :: l => ⟨fun E H => match (recheck P ops x).run E H with
  | true => (rechecks P ops l).run E H
  | false => false⟩
noncomputable def drawGo (P : Program) (n : Nat) (ops : Array Oper) : List DOp → List DOp → SeqF
 | [], _ => ⟨fun _ E H => .ok E H⟩
 | x :: l, pend => match x.c with
  | .quiet => ⟨fun k E H => OE.rec .no (fun E1 H1 => (drawGo P n ops l pend).run k E1 H1) ((compOper P n ops x.o).run k E H)⟩
  | .rd => ⟨fun k E H => OE.rec .no (fun E1 H1 => (drawGo P n ops l (x :: pend)).run k E1 H1) ((compOper P n ops x.o).run k E H)⟩
  | .al => ⟨fun k E H => OE.rec .no (fun E1 H1 => Bool.rec .no ((drawGo P n ops l (x :: pend)).run k E1 H1) ((rechecks P ops (x :: pend)).run E1 H1)) ((compOper P n ops x.o).run k E H)⟩
  | .ch =>
   let pend' := filterB (fun y => !(Nat.testBit x.m y.i)) pend
   ⟨fun k E H => OE.rec .no (fun E1 H1 => Bool.rec .no ((drawGo P n ops l pend').run k E1 H1) ((rechecks P ops pend').run E1 H1)) ((compOper P n ops x.o).run k E H)⟩
noncomputable def drawOk (n : Nat) (L ord : List DOp) : Bool := match topo ord 0 0 with
 | none => false
 | some s => match Nat.beq s (Nat.sub (2 ^ n) 1) with
  | false => false
  | true => match dstsOk L 0 with
   | false => false
   | true => looksOk L
noncomputable def compDraw (P : Program) (n : Nat) (ops : Array Oper) : SeqF :=
 let L := dops P ops ops.toList [] 0
 let chain := filterB isCh L
 let ord := ordOf L chain
 match drawOk ops.size L ord with
 | true => drawGo P n ops ord []
 | false => ⟨fun _ _ _ => .no⟩
inductive Ex where
 | normal
 | exit (id : Nat)
 | ret
inductive Res where
 | no
 | ok (x : Ex) (E : Tr AV) (D : List Nat) (H : Heap)
structure CodeF where run : CallT → Nat → Option Nat → Tr AV → List Nat → Heap → Res
noncomputable def stuckC : CodeF := ⟨fun _ _ _ _ _ _ => .no⟩
noncomputable def loopA (f : Tr AV → List Nat → Heap → Res) : Nat → Tr AV → List Nat → Heap → Res
 | 0, _, _, _ => .no
 | m + 1, E, D, H => match f E D H with
  | .no => .no
  | .ok x E' D' H' => match x with
   | .normal => loopA f m E' D' H'
   | x => .ok x E' D' H'
noncomputable def enterLoopA (f n : Nat) (ps : Array Tmp) (assign body : Code) (ro : Option Nat) (E : Tr AV) (D : List Nat) (H : Heap) : Option (Nat × List Nat × Heap) :=
 match ro with
 | none => some (Nat.add H.next 1, H.next :: D, (H.push (.defd true)).push (.loop .ready none f n E ps assign body H.next))
 | some l => match H.get l with
  | some (.loop _ _ _ _ _ _ _ _ d) => some (H.next, D, H.push (.loop .ready none f n E ps assign body d))
  | _ => none
noncomputable def exOf : Code → Option Ex
 | .ret => some .ret
 | .exit id => some (.exit id)
 | _ => none
noncomputable def endLoopA (l : Nat) (H : Heap) : Option (Option Code × Heap) := match H.get l with
 | some (.loop st pend f n E ps a b d) => match st with
  | .busy => none
  | _ => some (pend, H.put l (.loop .exhausted pend f n E ps a b d))
 | _ => none
noncomputable def compCode (P : Program) (f n : Nat) : Code → CodeF
 | .skip => ⟨fun _ _ _ E D H => .ok .normal E D H⟩
 | .region _ ops draw =>
  let s := match draw with
   | true => compDraw P n ops
   | false => compOps P n ops ops.toList
  ⟨fun k _ _ E D H => match s.run k E H with
   | .no => .no
   | .ok E' H' => .ok .normal E' D H'⟩
 | .seq a b => ⟨fun k m ro E D H => Res.rec .no (fun x E' D' H' => Ex.rec ((compCode P f n b).run k m ro E' D' H') (fun id => .ok (.exit id) E' D' H') (.ok .ret E' D' H') x)
   ((compCode P f n a).run k m ro E D H)⟩
 | .cond c a b => ⟨fun k m ro E D H => match (opd c).run E with
  | some (.bool t) => match t with
   | true => (compCode P f n a).run k m ro E D H
   | false => (compCode P f n b).run k m ro E D H
  | _ => .no⟩
 | .block id c => ⟨fun k m ro E D H => match (compCode P f n c).run k m ro E D H with
  | .no => .no
  | .ok x E' D' H' => match x with
   | .exit id' => match Nat.beq id' id with
    | true => .ok .normal E' D' H'
    | false => .ok (.exit id') E' D' H'
   | x => .ok x E' D' H'⟩
 | .loop c => ⟨fun k m ro E D H => loopA ((compCode P f n c).run k m ro) m E D H⟩
 | .rangeFunc g ps a b => ⟨fun k _ ro E D H => match (opd g).run E with
  | none => .no
  | some gv => match enterLoopA f n ps a b ro E D H with
   | none => .no
   | some (l, D', H') => match callFn P gv [.fn (.yield l) [] []] with
    | .call (.fn g) args => match k (.fn g) args H' with
     | .no => .no
     | .ok _ H2 => match endLoopA l H2 with
      | none => .no
      | some (none, H3) => .ok .normal E D' H3
      | some (some c, H3) => match exOf c with
       | none => .no
       | some x => .ok x E D' H3
    | _ => .no⟩
 | .exit id => ⟨fun _ _ _ E D H => .ok (.exit id) E D H⟩
 | .scope c => ⟨fun k m ro E D H => (compCode P f n c).run k m ro E D H⟩
 | .label _ => ⟨fun _ _ _ E D H => .ok .normal E D H⟩
 | .ret => ⟨fun _ _ _ E D H => .ok .ret E D H⟩
 | _ => stuckC
structure ResF where run : Tr AV → Heap → Option AV
noncomputable def resF (P : Program) (r : ResultVar) : ResF :=
 match r with
 | .tmp t => ⟨fun E _ => (opd (.tmp t)).run E⟩
 | .cell a t => match aggT P t, sizeT P t with
  | some true, some n => ⟨fun E H => match (opd (.tmp a)).run E with
   | some (.ptr o v i) => match readAt H o v i n with
    | some l => some (.agg l)
    | none => none
   | _ => none⟩
  | some false, some _ => ⟨fun E H => match (opd (.tmp a)).run E with
   | some (.ptr o v i) => match readAt H o v i 1 with
    | some [c] => some c
    | _ => none
   | _ => none⟩
  | _, _ => ⟨fun _ _ => none⟩
structure RessF where run : Tr AV → Heap → Option (List AV)
noncomputable def ressF (P : Program) : List ResultVar → RessF
 | [] => ⟨fun _ _ => some []⟩
 | r :: l => ⟨fun E H => match (resF P r).run E H with
  | none => none
  | some a => match (ressF P l).run E H with
   | none => none
   | some b => some (a :: b)⟩
noncomputable def takeDefs : List Nat → Heap → Option Heap
 | [], H => some H
 | d :: l, H => match H.get d with
  | some (.defd true) => takeDefs l (H.put d (.defd false))
  | _ => none
structure FunF where run : CallT → Nat → List AV → Heap → RV
noncomputable def compFn (P : Program) (f : Nat) : FunF :=
 match P.funcs[f]? with
 | none => ⟨fun _ _ _ _ => .no⟩
 | some fn => match fn.body with
  | none => ⟨fun _ _ _ _ => .no⟩
  | some body => if fn.ntmps ≤ lim then
   ⟨fun k m args H => match Nat.ble args.length fn.ntmps with
    | false => .no
    | true => match (compCode P f fn.ntmps body).run k m none (ofListFrom args 0 .e) [] H with
     | .no => .no
     | .ok x E D H' => match x with
      | .exit _ => .no
      | _ => match takeDefs D H' with
       | none => .no
       | some H2 => match (ressF P fn.results.toList).run E H2 with
        | some [v] => .ok v H2
        | some l => .ok (.tup l) H2
        | none => .no⟩
   else ⟨fun _ _ _ _ => .no⟩
noncomputable def setPs : List Tmp → List AV → Nat → Tr AV → Option (Tr AV)
 | [], [], _, E => some E
 | p :: ps, a :: as, n, E => match Nat.blt p n with
  | true => setPs ps as n (setP a (pathOf p) E)
  | false => none
 | _, _, _, _ => none
noncomputable def beginA (l : Nat) (H : Heap) : Option Heap := match H.get l with
 | some (.loop .ready pend f n E ps a b d) => some (H.put l (.loop .busy pend f n E ps a b d))
 | _ => none
noncomputable def endRoundA (l : Nat) (x : Ex) (H : Heap) : RV := match H.get l with
 | some (.loop _ _ f n E ps a b d) => match x with
  | .normal => .ok (.bool true) (H.put l (.loop .ready none f n E ps a b d))
  | .ret => .ok (.bool false) (H.put l (.loop .done (some .ret) f n E ps a b d))
  | .exit id => .ok (.bool false) (H.put l (.loop .done (some (.exit id)) f n E ps a b d))
 | _ => .no
noncomputable def callA (P : Program) (O : CallT) : Nat → CallT
 | 0 => fun _ _ _ => .no
 | m + 1 => fun t args H => match t with
  | .fn f => match O (.fn f) args H with
   | .ok v H' => .ok v H'
   | .no => (compFn P f).run (callA P O m) m args H
  | .yield l => match H.get l with
   | some (.loop .ready none f n E ps a b _) => match setPs ps.toList args n E with
    | none => .no
    | some E1 => match (compCode P f n a).run (callA P O m) m (some l) E1 [] H with
     | .ok .normal E2 [] H2 => match beginA l H2 with
      | none => .no
      | some H2' => match (compCode P f n b).run (callA P O m) m (some l) E2 [] H2' with
       | .no => .no
       | .ok x _ D H3 => match D with
        | [] => endRoundA l x H3
        | _ => .no
     | _ => .no
   | _ => .no
noncomputable def noO : CallT := fun _ _ _ => .no
noncomputable def runA (P : Program) (O : CallT) (m f : Nat) : Bool := match callA P O m (.fn f) [] ⟨.e, 0⟩ with
 | .ok (.bool true) _ => true
 | _ => false
end Go.Sv
namespace Go.Sv
open Go.RowKit (Below)
section tries
variable {α : Type}
theorem getP_e (p : List Bool) : getP p (Tr.e : Tr α) = none := by
 cases p with
 | nil => rfl
 | cons b p => cases b <;> rfl
theorem getP_t (p : List Bool) (v : Option α) (l r : Tr α) : getP (true :: p) (.n v l r) = getP p l := rfl
theorem getP_f (p : List Bool) (v : Option α) (l r : Tr α) : getP (false :: p) (.n v l r) = getP p r := rfl
theorem setP_nil_e (a : α) : setP a [] .e = .n (some a) .e .e := rfl
theorem setP_t_e (a : α) (p : List Bool) : setP a (true :: p) .e = .n none (setP a p .e) .e := rfl
theorem setP_f_e (a : α) (p : List Bool) : setP a (false :: p) .e = .n none .e (setP a p .e) := rfl
theorem setP_t_n (a : α) (p : List Bool) (v : Option α) (l r : Tr α) : setP a (true :: p) (.n v l r) = .n v (setP a p l) r := rfl
theorem setP_f_n (a : α) (p : List Bool) (v : Option α) (l r : Tr α) : setP a (false :: p) (.n v l r) = .n v l (setP a p r) := rfl
theorem getP_setP_same (a : α) : ∀ (p : List Bool) (t : Tr α), getP p (setP a p t) = some a
 | [], .e => rfl
 | [], .n _ _ _ => rfl
 | true :: p, .e => by rw [setP_t_e, getP_t]; exact getP_setP_same a p _
 | false :: p, .e => by rw [setP_f_e, getP_f]; exact getP_setP_same a p _
 | true :: p, .n v l r => by rw [setP_t_n, getP_t]; exact getP_setP_same a p _
 | false :: p, .n v l r => by rw [setP_f_n, getP_f]; exact getP_setP_same a p _
theorem getP_setP_ne (a : α) : ∀ (p q : List Bool) (t : Tr α), p ≠ q → getP q (setP a p t) = getP q t
 | [], [], _, h => absurd rfl h
 | [], true :: q, .e, _ => by rw [setP_nil_e, getP_t, getP_e, getP_e]
 | [], false :: q, .e, _ => by rw [setP_nil_e, getP_f, getP_e, getP_e]
 | [], true :: q, .n _ _ _, _ => rfl
 | [], false :: q, .n _ _ _, _ => rfl
 | true :: p, [], .e, _ => rfl
 | false :: p, [], .e, _ => rfl
 | true :: p, [], .n _ _ _, _ => rfl
 | false :: p, [], .n _ _ _, _ => rfl
 | true :: p, true :: q, .e, h => by rw [setP_t_e, getP_t, getP_setP_ne a p q _ (fun e => h (by rw [e])), getP_e, getP_e]
 | true :: p, false :: q, .e, _ => by rw [setP_t_e, getP_f, getP_e, getP_e]
 | false :: p, true :: q, .e, _ => by rw [setP_f_e, getP_t, getP_e, getP_e]
 | false :: p, false :: q, .e, h => by rw [setP_f_e, getP_f, getP_setP_ne a p q _ (fun e => h (by rw [e])), getP_e, getP_e]
 | true :: p, true :: q, .n _ l _, h => by rw [setP_t_n, getP_t, getP_t]; exact getP_setP_ne a p q l (fun e => h (by rw [e]))
 | true :: p, false :: q, .n _ _ _, _ => rfl
 | false :: p, true :: q, .n _ _ _, _ => rfl
 | false :: p, false :: q, .n _ _ r, h => by rw [setP_f_n, getP_f, getP_f]; exact getP_setP_ne a p q r (fun e => h (by rw [e]))
theorem pathF_inj : ∀ (f g j k : Nat), j < f → k < g → pathF f j = pathF g k → j = k
 | 0, _, j, k, hj, _, _ => by omega
 | _, 0, j, k, _, hk, _ => by omega
 | f + 1, g + 1, 0, 0, _, _, _ => rfl
 | f + 1, g + 1, 0, k + 1, _, _, h => by simp [pathF] at h
 | f + 1, g + 1, j + 1, 0, _, _, h => by simp [pathF] at h
 | f + 1, g + 1, j + 1, k + 1, hj, hk, h => by
  simp only [pathF, List.cons.injEq] at h
  obtain ⟨h1, h2⟩ := h
  have e1 : Nat.div j 2 = j / 2 := rfl
  have e2 : Nat.div k 2 = k / 2 := rfl
  have e3 : Nat.mod j 2 = j % 2 := rfl
  have e4 : Nat.mod k 2 = k % 2 := rfl
  rw [e1, e2] at h2
  rw [e3, e4] at h1
  have := pathF_inj f g (j / 2) (k / 2) (by omega) (by omega) h2
  have q : ∀ x : Nat, Nat.beq x 0 = true ↔ x = 0 := fun x => by cases x <;> simp [Nat.beq]
  have h3 : (j % 2 = 0 ↔ k % 2 = 0) := by
   rw [← q, ← q, h1]
  omega
theorem pathOf_inj {j k : Nat} (h : pathOf j = pathOf k) : j = k :=
 pathF_inj _ _ j k (Nat.lt_succ_self _) (Nat.lt_succ_self _) h
theorem get_set {j k : Nat} (a : α) (t : Tr α) :
  getP (pathOf k) (setP a (pathOf j) t) = if k = j then some a else getP (pathOf k) t := by
 by_cases h : k = j
 ·subst h; rw [if_pos rfl]; exact getP_setP_same a _ t
 ·rw [if_neg h]; exact getP_setP_ne a _ _ t (fun e => h (pathOf_inj e.symm))
theorem get_set_same (j : Nat) (a : α) (t : Tr α) : getP (pathOf j) (setP a (pathOf j) t) = some a := getP_setP_same a _ t
theorem get_set_ne {j k : Nat} (h : k ≠ j) (a : α) (t : Tr α) :
  getP (pathOf k) (setP a (pathOf j) t) = getP (pathOf k) t := by rw [get_set, if_neg h]
theorem get_ofList : ∀ (l : List α) (i : Nat) (t : Tr α) (k : Nat),
  getP (pathOf k) (ofListFrom l i t) = if i ≤ k ∧ k < i + l.length then l[k - i]? else getP (pathOf k) t
 | [], i, t, k => by simp only [ofListFrom, List.length_nil]; rw [if_neg (by omega)]
 | a :: l, i, t, k => by
  simp only [List.length_cons]
  rw [ofListFrom, get_ofList l (i + 1) _ k]
  by_cases h1 : i + 1 ≤ k ∧ k < i + 1 + l.length
  ·rw [if_pos h1, if_pos (by omega)]
   have : k - i = (k - (i + 1)) + 1 := by omega
   rw [this, List.getElem?_cons_succ]
  ·rw [if_neg h1, get_set]
   by_cases h2 : k = i
   ·subst h2; rw [if_pos rfl, if_pos (by omega)]; simp
   ·rw [if_neg h2, if_neg (by omega)]
end tries
theorem getCells_spec {c : Tr AV} : ∀ {n i : Nat} {l : List AV}, getCells c i n = some l → l.length = n ∧ ∀ j, j < n → getP (pathOf (i + j)) c = l[j]?
 | 0, i, l, h => by
  simp only [getCells, Option.some.injEq] at h
  subst h; exact ⟨rfl, fun j hj => by omega⟩
 | n + 1, i, l, h => by
  simp only [getCells] at h
  split at h
  ·cases h
  ·rename_i a ha
   split at h
   ·cases h
   ·rename_i r hr
    cases h
    obtain ⟨h1, h2⟩ := getCells_spec hr
    refine ⟨by simp [h1], fun j hj => ?_⟩
    cases j with
    | zero => simpa using ha
    | succ j => have := h2 j (by omega); rw [List.getElem?_cons_succ, ← this]; congr 2; omega
structure Loc where
 b : Nat
 d : Nat
 n : Nat
 sz : Nat
structure CM where
 f : Nat → Nat → Option Loc
 nx : Nat
instance : CoeFun CM (fun _ => Nat → Nat → Option Loc) := ⟨CM.f⟩
def CM.keep (C C' : CM) : Prop := ∀ o v L, C o v = some L → C' o v = some L
structure CM.le (C C' : CM) : Prop where
 keep : C.keep C'
 nx : C.nx ≤ C'.nx
 new : ∀ o v L, C' o v = some L → (∃ v' L', C o v' = some L') ∨ C.nx ≤ o
theorem CM.le_refl (C : CM) : C.le C := ⟨fun _ _ _ h => h, Nat.le_refl _, fun _ v L h => .inl ⟨v, L, h⟩⟩
theorem CM.le_trans {A B C : CM} (h : A.le B) (k : B.le C) : A.le C := by
 refine ⟨fun o v L e => k.keep o v L (h.keep o v L e), Nat.le_trans h.nx k.nx, fun o v L e => ?_⟩
 rcases k.new o v L e with ⟨v', L', e'⟩ | e'
 ·exact h.new o v' L' e'
 ·exact .inr (Nat.le_trans h.nx e')
inductive FR (C : CM) : Fn → Fn → Prop where
 | same (f : Fn) (h : ∀ l, f ≠ .yield l) : FR C f f
 | yield {l : Nat} {L : Loc} (h : C l 0 = some L) : FR C (.yield l) (.yield L.b)
theorem FR.mono {C C' : CM} (h : C.keep C') {f g : Fn} : FR C f g → FR C' f g
 | .same f hf => .same f hf
 | .yield e => .yield (h _ _ _ e)
def AV.one : AV → Bool
 | .agg _ => false
 | .tup _ => false
 | _ => true
mutual
inductive VR (C : CM) : AV → Value → Prop where
 | bool (b : Bool) : VR C (.bool b) (.bool b)
 | int (k : IntKind) (n : Int) : VR C (.int k n) (.int k n)
 | str {len n : Nat} {s : ByteArray} (h1 : s.data.toList.length = len) (h2 : packL s.data.toList = n) : VR C (.str len n) (.string s)
 | nilPtr : VR C .nilPtr (.pointer none)
 | ptr {o v i : Nat} {L : Loc} (h : C o v = some L) : VR C (.ptr o v i) (.pointer (some ⟨L.b, L.d + i, none⟩))
 | nilSl : VR C .nilSl (.slice none 0 0)
 | sl {o v i len esz : Nat} {room : Option Nat} {L : Loc} {cap : Nat} (h : C o v = some L) (h1 : i + len * esz ≤ L.n) (h2 : L.d + i + cap * esz ≤ L.sz) (h3 : len ≤ cap)
   (h4 : ∀ r, room = some r → cap = r ∧ i + r * esz ≤ L.n) (h5 : room = none → L.d + i + cap * esz = L.sz) :
   VR C (.sl o v i len esz room) (.slice (some ⟨L.b, L.d + i, none⟩) len cap)
 | emp {a : Addr} {cap : Nat} : VR C .emp (.slice (some a) 0 cap)
 | nilMap : VR C .nilMap (.map none)
 | map {o : Nat} {L : Loc} (h : C o 0 = some L) : VR C (.map o) (.map (some L.b))
 | nilFn : VR C .nilFn .nilFunc
 | fn {f g : Fn} {l r : List AV} {l' r' : Array Value} (h : FR C f g) (hl : VRs C l l'.toList) (hr : VRs C r r'.toList) : VR C (.fn f l r) (.func g l' r')
 | nilIf : VR C .nilIf .nilIface
 | iface {t : TypeId} {a : AV} {v : Value} (h : VR C a v) : VR C (.iface t a) (.iface t v)
 | agg {l : List AV} {vs : Array Value} (h : VRs C l vs.toList) (h1 : ∀ a ∈ l, a.one = true) : VR C (.agg l) (.agg vs)
 | tup {l : List AV} {vs : Array Value} (h : VRs C l vs.toList) : VR C (.tup l) (.tuple vs)
inductive VRs (C : CM) : List AV → List Value → Prop where
 | nil : VRs C [] []
 | cons {a : AV} {v : Value} {l : List AV} {r : List Value} (h : VR C a v) (hs : VRs C l r) : VRs C (a :: l) (v :: r)
end
mutual
theorem VR.mono' {C C' : CM} (h : C.keep C') : ∀ {a : AV} {v : Value}, VR C a v → VR C' a v
 | _, _, .bool b => .bool b
 | _, _, .int k n => .int k n
 | _, _, .str h1 h2 => .str h1 h2
 | _, _, .nilPtr => .nilPtr
 | _, _, .ptr e => .ptr (h _ _ _ e)
 | _, _, .nilSl => .nilSl
 | _, _, .sl e h1 h2 h3 h4 h5 => .sl (h _ _ _ e) h1 h2 h3 h4 h5
 | _, _, .emp => .emp
 | _, _, .nilMap => .nilMap
 | _, _, .map e => .map (h _ _ _ e)
 | _, _, .nilFn => .nilFn
 | _, _, .fn hf hl hr => .fn (hf.mono h) (VRs.mono' h hl) (VRs.mono' h hr)
 | _, _, .nilIf => .nilIf
 | _, _, .iface e => .iface (VR.mono' h e)
 | _, _, .agg e h1 => .agg (VRs.mono' h e) h1
 | _, _, .tup e => .tup (VRs.mono' h e)
theorem VRs.mono' {C C' : CM} (h : C.keep C') : ∀ {l : List AV} {r : List Value}, VRs C l r → VRs C' l r
 | _, _, .nil => .nil
 | _, _, .cons e es => .cons (VR.mono' h e) (VRs.mono' h es)
end
theorem VR.mono {C C' : CM} (h : C.le C') {a : AV} {v : Value} (k : VR C a v) : VR C' a v := k.mono' h.keep
theorem VRs.mono {C C' : CM} (h : C.le C') {a : List AV} {v : List Value} (k : VRs C a v) : VRs C' a v := k.mono' h.keep
theorem VRs.length {C : CM} : ∀ {l : List AV} {r : List Value}, VRs C l r → l.length = r.length
 | _, _, .nil => rfl
 | _, _, .cons _ es => by simp [VRs.length es]
theorem VRs.get {C : CM} : ∀ {l : List AV} {r : List Value}, VRs C l r → ∀ {i : Nat} {a : AV}, l[i]? = some a → ∃ v, r[i]? = some v ∧ VR C a v
 | _, _, .nil, i, a, h => by simp at h
 | _, _, .cons e es, 0, a, h => by simp only [List.getElem?_cons_zero, Option.some.injEq] at h; subst h; exact ⟨_, rfl, e⟩
 | _, _, .cons e es, i + 1, a, h => by simp only [List.getElem?_cons_succ] at h ⊢; exact VRs.get es h
theorem VRs.mk {C : CM} : ∀ {l : List AV} {r : List Value}, l.length = r.length → (∀ (i : Nat) (a : AV), l[i]? = some a → ∃ v, r[i]? = some v ∧ VR C a v) → VRs C l r
 | [], [], _, _ => .nil
 | [], _ :: _, h, _ => by simp at h
 | _ :: _, [], h, _ => by simp at h
 | a :: l, v :: r, h, k => by
  obtain ⟨v', hv, hr⟩ := k 0 a rfl
  simp only [List.getElem?_cons_zero, Option.some.injEq] at hv
  subst hv
  exact .cons hr (VRs.mk (by simpa using h) (fun i a hi => by have := k (i + 1) a (by simpa using hi); simpa using this))
theorem VRs.append {C : CM} : ∀ {l : List AV} {r : List Value} {l' : List AV} {r' : List Value}, VRs C l r → VRs C l' r' → VRs C (l ++ l') (r ++ r')
 | _, _, _, _, .nil, k => k
 | _, _, _, _, .cons e es, k => .cons e (VRs.append es k)
theorem VRs.drop {C : CM} : ∀ {l : List AV} {r : List Value}, VRs C l r → ∀ n, VRs C (l.drop n) (r.drop n)
 | _, _, h, 0 => h
 | _, _, .nil, _ + 1 => .nil
 | _, _, .cons _ es, n + 1 => VRs.drop es n
theorem VRs.take {C : CM} : ∀ {l : List AV} {r : List Value}, VRs C l r → ∀ n, VRs C (l.take n) (r.take n)
 | _, _, _, 0 => .nil
 | _, _, .nil, _ + 1 => .nil
 | _, _, .cons e es, n + 1 => .cons e (VRs.take es n)
theorem VR.one {C : CM} {a : AV} {v : Value} (h : VR C a v) : v.oneCell' = a.one := by cases h <;> rfl
theorem absS_spec {C : CM} {v : Value} {a : AV} (h : absS v = some a) : VR C a v ∧ a.one = true := by
 unfold absS at h
 split at h <;> first
  | (cases h; done)
  | (cases h; exact ⟨by constructor <;> rfl, rfl⟩)
  | (cases h; exact ⟨by constructor, rfl⟩)
theorem absL_spec {C : CM} : ∀ {l : List Value} {r : List AV}, absL l = some r → VRs C r l ∧ ∀ a ∈ r, a.one = true
 | [], r, h => by cases h; exact ⟨.nil, by simp⟩
 | v :: l, r, h => by
  simp only [absL] at h
  split at h
  ·cases h
  ·rename_i a ha
   split at h
   ·cases h
   ·rename_i r' hr
    cases h
    obtain ⟨h1, h2⟩ := absL_spec (C := C) hr
    obtain ⟨h3, h4⟩ := absS_spec (C := C) ha
    exact ⟨.cons h3 h1, by simpa using ⟨h4, h2⟩⟩
theorem absV_spec {C : CM} {v : Value} {a : AV} (h : absV v = some a) : VR C a v := by
 unfold absV at h
 split at h
 ·rename_i cs
  cases hl : absL cs.toList with
  | none => simp [hl] at h
  | some r =>
   simp only [hl, Option.map_some, Option.some.injEq] at h
   subst h
   obtain ⟨h1, h2⟩ := absL_spec (C := C) hl
   exact .agg h1 h2
 ·rename_i vs
  split at h
  ·rename_i h0
   cases h
   have : vs = #[] := Array.eq_empty_of_size_eq_zero h0
   subst this
   exact .tup .nil
  ·cases h
 ·exact (absS_spec h).1
theorem VR.cells {C : CM} {a : AV} {v : Value} (h : VR C a v) {l : List AV} (hl : a.cells = some l) : VRs C l v.cells.toList ∧ ∀ x ∈ l, x.one = true := by
 cases h with
 | agg h h1 => simp only [AV.cells, Option.some.injEq] at hl; subst hl; exact ⟨by simpa [Value.cells] using h, h1⟩
 | tup h => simp [AV.cells] at hl
 | _ => simp only [AV.cells, Option.some.injEq] at hl; subst hl; exact ⟨by simp only [Value.cells]; exact .cons (by constructor <;> assumption) .nil, by simp [AV.one]⟩
def CellsR (C : CM) (c : Tr AV) (len : Nat) (vs : Array Value) (d : Nat) : Prop :=
 ∀ i, i < len → ∃ a, getP (pathOf i) c = some a ∧ a.one = true ∧ ∃ v, vs[d + i]? = some v ∧ VR C a v
inductive MR (C : CM) : List (AV × AV × Nat) → List MapEntry → Prop where
 | nil : MR C [] []
 | cons {k v : AV} {b : Nat} {e : MapEntry} {l : List (AV × AV × Nat)} {r : List MapEntry} (hk : VR C k e.key) (hv : VR C v e.val) (hb : e.born = b) (h : MR C l r) : MR C ((k, v, b) :: l) (e :: r)
def OVR (C : CM) (a : Option AV) (v : Value) : Prop := match a with
 | some a => VR C a v
 | none => v = undef
def ER (n : Nat) (C : CM) (E : Tr AV) (tm : Array Value) : Prop :=
 tm.size = n ∧ n ≤ lim ∧ ∀ t, t ≤ lim → OVR C (getP (pathOf t) E) (tm.getD t undef)
def ObjR (B : Nat) (C : CM) (w : World) (o : Nat) : AObj → Prop
 | .cells c len ver ro => ∀ L, C o ver = some L → L.n = len ∧ (ro = false → B ≤ L.b) ∧ L.d + len ≤ L.sz ∧ ∃ vs e lo hi, w.heap[L.b]? = some (.cells vs e (lo, hi)) ∧ L.sz ≤ vs.size ∧
   (∀ i, L.d ≤ i → i < L.sz → ¬ (lo ≤ i ∧ i < hi)) ∧ CellsR C c len vs L.d
 | .map es ck => ∀ L, C o 0 = some L → B ≤ L.b ∧ ∃ ces : Array MapEntry, w.heap[L.b]? = some (.map ces ck) ∧ MR C es ces.toList
 | .iter len n pos => ∀ L, C o 0 = some L → B ≤ L.b ∧ L.d = 0 ∧ ∃ s : ByteArray, w.heap[L.b]? = some (.stringIter s pos) ∧ s.data.toList.length = len ∧ packL s.data.toList = n
 | .loop st pend f n E ps a b d => ∀ L, C o 0 = some L → B ≤ L.b ∧ ∃ tm Ld, C d 0 = some Ld ∧ w.heap[L.b]? = some (.loop { state := st, pending := pend, fn := f, tmps := tm, params := ps, assign := a, body := b, defers := Ld.b }) ∧ ER n C E tm
 | .defd op => ∀ L, C o 0 = some L → B ≤ L.b ∧ w.heap[L.b]? = some (.deferred (if op then some [] else none))
structure Rel (w0 : World) (C : CM) (H : Heap) (w : World) : Prop where
 nx : C.nx = H.next
 low : Below w0.heap.size w0 w
 fresh : ∀ o v L, C o v = some L → o < H.next
 lt : ∀ o v L, C o v = some L → L.b < w.heap.size
 excl : ∀ o v L o' v' L', C o v = some L → C o' v' = some L' → L.b = L'.b → w0.heap.size ≤ L.b → o = o'
 obj : ∀ o ob, o < H.next → H.get o = some ob → ObjR w0.heap.size C w o ob
 top : ∀ o c len ver ro, o < H.next → H.get o = some (.cells c len ver ro) → ∀ v L, C o v = some L → v ≤ ver
end Go.Sv
namespace Go.Sv
open Go.RowKit (Below)
def CM.ext (C : CM) (o v : Nat) (L : Loc) : CM := ⟨fun o' v' => if o' = o ∧ v' = v then some L else C o' v', max C.nx (o + 1)⟩
theorem CM.ext_same (C : CM) (o v : Nat) (L : Loc) : C.ext o v L o v = some L := by simp [CM.ext]
theorem CM.ext_ne (C : CM) {o v o' v' : Nat} (L : Loc) (h : ¬ (o' = o ∧ v' = v)) : C.ext o v L o' v' = C o' v' := by simp only [CM.ext]; rw [if_neg h]
theorem CM.le_ext {C : CM} {o v : Nat} (L : Loc) (h : C o v = none) (hn : (∃ v' L', C o v' = some L') ∨ C.nx ≤ o) : C.le (C.ext o v L) := by
 refine ⟨fun o' v' L' h' => ?_, Nat.le_max_left _ _, fun o' v' L' h' => ?_⟩
 ·by_cases e : o' = o ∧ v' = v
  ·obtain ⟨rfl, rfl⟩ := e; rw [h] at h'; cases h'
  ·rw [CM.ext_ne C L e]; exact h'
 ·by_cases e : o' = o ∧ v' = v
  ·obtain ⟨rfl, rfl⟩ := e; exact hn
  ·rw [CM.ext_ne C L e] at h'; exact .inl ⟨v', L', h'⟩
theorem MR.mono' {C C' : CM} (h : C.keep C') : ∀ {l : List (AV × AV × Nat)} {r : List MapEntry}, MR C l r → MR C' l r
 | _, _, .nil => .nil
 | _, _, .cons hk hv hb hs => .cons (hk.mono' h) (hv.mono' h) hb (MR.mono' h hs)
theorem OVR.mono' {C C' : CM} (h : C.keep C') {a : Option AV} {v : Value} (k : OVR C a v) : OVR C' a v := by
 cases a with
 | none => exact k
 | some a => exact VR.mono' h k
theorem ER.mono' {C C' : CM} (h : C.keep C') {n : Nat} {E : Tr AV} {tm : Array Value} (k : ER n C E tm) : ER n C' E tm :=
 ⟨k.1, k.2.1, fun t ht => (k.2.2 t ht).mono' h⟩
theorem CellsR.mono' {C C' : CM} (h : C.keep C') {c : Tr AV} {len : Nat} {vs : Array Value} {d : Nat} (k : CellsR C c len vs d) : CellsR C' c len vs d :=
 fun i hi => let ⟨a, h1, h2, v, h3, h4⟩ := k i hi; ⟨a, h1, h2, v, h3, h4.mono' h⟩
theorem MR.mono {C C' : CM} (h : C.le C') {l : List (AV × AV × Nat)} {r : List MapEntry} (k : MR C l r) : MR C' l r := k.mono' h.keep
theorem ER.mono {C C' : CM} (h : C.le C') {n : Nat} {E : Tr AV} {tm : Array Value} (k : ER n C E tm) : ER n C' E tm := k.mono' h.keep
theorem CellsR.mono {C C' : CM} (h : C.le C') {c : Tr AV} {len : Nat} {vs : Array Value} {d : Nat} (k : CellsR C c len vs d) : CellsR C' c len vs d := k.mono' h.keep
theorem ObjR.frame' {B : Nat} {C C' : CM} {w w' : World} {o : Nat} {ob : AObj} (h : ObjR B C w o ob) (hc : C.keep C') (hn : ∀ v L, C' o v = some L → C o v = some L)
  (hb : ∀ v L, C o v = some L → w'.heap[L.b]? = w.heap[L.b]?) : ObjR B C' w' o ob := by
 cases ob with
 | cells c len ver ro =>
  intro L hL
  have hL' := hn _ _ hL
  obtain ⟨h1, h2, h3, vs, e, lo, hi, h4, h5, h6, h7⟩ := h L hL'
  exact ⟨h1, h2, h3, vs, e, lo, hi, by rw [hb _ _ hL']; exact h4, h5, h6, h7.mono' hc⟩
 | map es ck =>
  intro L hL
  have hL' := hn _ _ hL
  obtain ⟨h1, ces, h2, h3⟩ := h L hL'
  exact ⟨h1, ces, by rw [hb _ _ hL']; exact h2, h3.mono' hc⟩
 | iter len n pos =>
  intro L hL
  have hL' := hn _ _ hL
  obtain ⟨h1, h0, s, h2, h3⟩ := h L hL'
  exact ⟨h1, h0, s, by rw [hb _ _ hL']; exact h2, h3⟩
 | loop st pend f n E ps a b d =>
  intro L hL
  have hL' := hn _ _ hL
  obtain ⟨h1, tm, Ld, h2, h3, h4⟩ := h L hL'
  exact ⟨h1, tm, Ld, hc _ _ _ h2, by rw [hb _ _ hL']; exact h3, h4.mono' hc⟩
 | defd op =>
  intro L hL
  have hL' := hn _ _ hL
  obtain ⟨h1, h2⟩ := h L hL'
  exact ⟨h1, by rw [hb _ _ hL']; exact h2⟩
theorem ObjR.frame {B : Nat} {C C' : CM} {w w' : World} {o : Nat} {ob : AObj} (h : ObjR B C w o ob) (hc : C.le C') (hn : ∀ v L, C' o v = some L → C o v = some L)
  (hb : ∀ v L, C o v = some L → w'.heap[L.b]? = w.heap[L.b]?) : ObjR B C' w' o ob := h.frame' hc.keep hn hb
theorem Heap.get_push_same (H : Heap) (x : AObj) : (H.push x).get H.next = some x := get_set_same _ _ _
theorem Heap.get_push_ne (H : Heap) (x : AObj) {o : Nat} (ho : o < H.next) : (H.push x).get o = H.get o :=
 get_set_ne (by omega) _ _
theorem Heap.get_put_same (H : Heap) (o : Nat) (x : AObj) : (H.put o x).get o = some x := get_set_same _ _ _
theorem Heap.get_put_ne (H : Heap) {o o' : Nat} (x : AObj) (hne : o' ≠ o) : (H.put o x).get o' = H.get o' := get_set_ne hne _ _
theorem heap_alloc_lt (w : World) (x : Obj) {k : Nat} (h : k < w.heap.size) : (w.alloc x).heap[k]? = w.heap[k]? := Below.heap_alloc w x k h
theorem heap_alloc_new (w : World) (x : Obj) : (w.alloc x).heap[w.heap.size]? = some x := by
 show (w.heap.push x)[w.heap.size]? = some x
 simp
theorem Rel.next_none {w0 : World} {C : CM} {H : Heap} {w : World} (h : Rel w0 C H w) (v : Nat) : C H.next v = none := by
 cases e : C H.next v with
 | none => rfl
 | some L => have := h.fresh _ _ _ e; omega
theorem Rel.push {w0 : World} {C : CM} {H : Heap} {w : World} (h : Rel w0 C H w) (ob : AObj) (x : Obj) (n sz : Nat)
  (hob : ObjR w0.heap.size (C.ext H.next 0 ⟨w.heap.size, 0, n, sz⟩) (w.alloc x) H.next ob) :
  Rel w0 (C.ext H.next 0 ⟨w.heap.size, 0, n, sz⟩) (H.push ob) (w.alloc x) ∧ C.le (C.ext H.next 0 ⟨w.heap.size, 0, n, sz⟩) := by
 have hle : C.le (C.ext H.next 0 ⟨w.heap.size, 0, n, sz⟩) := CM.le_ext _ (h.next_none 0) (.inr (Nat.le_of_eq h.nx))
 refine ⟨⟨by show max C.nx (H.next + 1) = H.next + 1; rw [h.nx]; exact Nat.max_eq_right (Nat.le_succ _), h.low.alloc h.low.size x, ?_, ?_, ?_, ?_, ?_⟩, hle⟩
 ·intro o v L hL
  show o < H.next + 1
  by_cases e : o = H.next ∧ v = 0
  ·omega
  ·rw [CM.ext_ne _ _ e] at hL; have := h.fresh _ _ _ hL; omega
 ·intro o v L hL
  rw [World.size_alloc]
  by_cases e : o = H.next ∧ v = 0
  ·obtain ⟨rfl, rfl⟩ := e; rw [CM.ext_same] at hL; cases hL; exact Nat.lt_succ_self _
  ·rw [CM.ext_ne _ _ e] at hL; have := h.lt _ _ _ hL; omega
 ·intro o v L o' v' L' hL hL' hb hB
  by_cases e : o = H.next ∧ v = 0 <;> by_cases e' : o' = H.next ∧ v' = 0
  ·omega
  ·obtain ⟨rfl, rfl⟩ := e
   rw [CM.ext_same] at hL; cases hL
   rw [CM.ext_ne _ _ e'] at hL'; have := h.lt _ _ _ hL'; dsimp at hb; omega
  ·obtain ⟨rfl, rfl⟩ := e'
   rw [CM.ext_same] at hL'; cases hL'
   rw [CM.ext_ne _ _ e] at hL; have := h.lt _ _ _ hL; dsimp at hb; omega
  ·rw [CM.ext_ne _ _ e] at hL; rw [CM.ext_ne _ _ e'] at hL'; exact h.excl _ _ _ _ _ _ hL hL' hb hB
 ·intro o ob' ho hg
  by_cases e : o = H.next
  ·subst e; rw [Heap.get_push_same] at hg; cases hg; exact hob
  ·have ho' : o < H.next := by have : o < H.next + 1 := ho; omega
   rw [Heap.get_push_ne _ _ ho'] at hg
   refine (h.obj _ _ ho' hg).frame hle (fun v L hL => ?_) (fun v L hL => heap_alloc_lt _ _ (h.lt _ _ _ hL))
   rwa [CM.ext_ne _ _ (by omega)] at hL
 ·intro o c len ver ro ho hg v L hL
  by_cases e : o = H.next
  ·subst e
   by_cases ev : v = 0
   ·omega
   ·rw [CM.ext_ne _ _ (by omega)] at hL; have := h.fresh _ _ _ hL; omega
  ·have ho' : o < H.next := by have : o < H.next + 1 := ho; omega
   rw [Heap.get_push_ne _ _ ho'] at hg
   rw [CM.ext_ne _ _ (by omega)] at hL
   exact h.top _ _ _ _ _ ho' hg _ _ hL
theorem Rel.put {w0 : World} {C : CM} {H : Heap} {w w' : World} (h : Rel w0 C H w) {o : Nat} (ho : o < H.next) (ob : AObj) (hlow : Below w0.heap.size w0 w')
  (hsz : w.heap.size ≤ w'.heap.size) (hfr : ∀ o' v L, o' ≠ o → C o' v = some L → w'.heap[L.b]? = w.heap[L.b]?) (hob : ObjR w0.heap.size C w' o ob)
  (htop : ∀ c len ver ro, ob = .cells c len ver ro → ∀ v L, C o v = some L → v ≤ ver) : Rel w0 C (H.put o ob) w' := by
 refine ⟨h.nx, hlow, h.fresh, fun o v L hL => Nat.lt_of_lt_of_le (h.lt o v L hL) hsz, h.excl, ?_, ?_⟩
 ·intro o' ob' ho' hg
  by_cases e : o' = o
  ·subst e; rw [Heap.get_put_same] at hg; cases hg; exact hob
  ·have ho'' : o' < H.next := ho'
   rw [Heap.get_put_ne H ob e] at hg
   exact (h.obj _ _ ho' hg).frame (CM.le_refl C) (fun v L hL => hL) (fun v L hL => hfr _ _ _ e hL)
 ·intro o' c len ver ro ho' hg v L hL
  by_cases e : o' = o
  ·subst e; rw [Heap.get_put_same] at hg; cases hg; exact htop _ _ _ _ rfl v L hL
  ·have ho'' : o' < H.next := ho'
   rw [Heap.get_put_ne H ob e] at hg
   exact h.top _ _ _ _ _ ho' hg _ _ hL
theorem Rel.drew {w0 : World} {C : CM} {H : Heap} {w : World} (h : Rel w0 C H w) : Rel w0 C H w.drew :=
 ⟨h.nx, h.low.drew, h.fresh, h.lt, h.excl, fun o ob ho hg => (h.obj o ob ho hg).frame (CM.le_refl C) (fun _ _ hL => hL) (fun _ _ _ => rfl), h.top⟩
theorem run_loadCellsFrom (P : Program) (w : World) (a : Addr) : ∀ (n i : Nat) (acc : Array Value) (r : List Value), r.length = n → (∀ j, j < n → w.cell? (a.add (i + j)) = r[j]?) →
  (loadCellsFrom a i n acc).run P w = .ok (acc ++ r.toArray) w
 | 0, i, acc, r, hr, _ => by
  have : r = [] := List.eq_nil_of_length_eq_zero hr
  subst this; simp [loadCellsFrom]
 | n + 1, i, acc, r, hr, h => by
  cases r with
  | nil => simp at hr
  | cons v r =>
   have h0 : w.cell? (a.add i) = some v := by simpa using h 0 (by omega)
   simp only [loadCellsFrom, Sem.run_bind, run_load, h0, Result.andThen_ok]
   rw [run_loadCellsFrom P w a n (i + 1) (acc.push v) r (by simpa using hr) (fun j hj => by
    have := h (j + 1) (by omega)
    rw [show i + 1 + j = i + (j + 1) from by omega, this, List.getElem?_cons_succ])]
   simp
theorem run_loadCells (P : Program) (w : World) (a : Addr) (n : Nat) (r : List Value) (hr : r.length = n) (h : ∀ j, j < n → w.cell? (a.add j) = r[j]?) :
  (loadCells a n).run P w = .ok r.toArray w := by
 unfold loadCells
 rw [run_loadCellsFrom P w a n 0 #[] r hr (fun j hj => by rw [Nat.zero_add]; exact h j hj)]
 simp
theorem add_addr (b d i j : Nat) : (⟨b, d + i, none⟩ : Addr).add j = ⟨b, d + (i + j), none⟩ := by
 unfold Addr.add
 by_cases h : j = 0
 ·subst h; simp
 ·rw [if_neg h]; simp [Nat.add_assoc]
theorem cell_at {w : World} {b i : Nat} {vs : Array Value} {e : TypeId} {fz : Nat × Nat} (h : w.heap[b]? = some (.cells vs e fz)) : w.cell? ⟨b, i, none⟩ = vs[i]? := by
 simp [World.cell?, h]
theorem Rel.read {w0 : World} {C : CM} {H : Heap} {w : World} (h : Rel w0 C H w) (P : Program) {o v i n : Nat} {l : List AV} (hr : readAt H o v i n = some l) {L : Loc} (hL : C o v = some L) :
  ∃ vs : List Value, (loadCells ⟨L.b, L.d + i, none⟩ n).run P w = .ok vs.toArray w ∧ VRs C l vs ∧ (∀ a ∈ l, a.one = true) ∧ l.length = n ∧ i + n ≤ L.n ∧
   (∀ j, j < n → w.cell? ⟨L.b, L.d + (i + j), none⟩ = vs[j]?) := by
 unfold readAt at hr
 split at hr
 ·rename_i c len ver ro hg
  split at hr
  ·rename_i hv
   have hv' := Nat.eq_of_beq_eq_true hv
   subst hv'
   split at hr
   ·rename_i hle
    have hle' : i + n ≤ len := Nat.le_of_ble_eq_true hle
    have hob := h.obj o _ (h.fresh _ _ _ hL) hg
    obtain ⟨h1, _, h3, vs, e, lo, hi, h4, h5, h6, h7⟩ := hob L hL
    obtain ⟨k1, k2⟩ := getCells_spec hr
    have hex : ∀ j, j < n → ∃ a, l[j]? = some a ∧ a.one = true ∧ ∃ x, vs[L.d + (i + j)]? = some x ∧ VR C a x := by
     intro j hj
     obtain ⟨a, q1, q2, x, q3, q4⟩ := h7 (i + j) (by omega)
     exact ⟨a, by rw [← k2 j hj]; exact q1, q2, x, q3, q4⟩
    have hsz : L.d + (i + n) ≤ vs.size := by omega
    let r : List Value := (List.range n).map fun j => vs.getD (L.d + (i + j)) undef
    have hrl : r.length = n := by simp [r]
    have hrj : ∀ j, j < n → vs[L.d + (i + j)]? = r[j]? := by
     intro j hj
     simp only [r, List.getElem?_map, List.getElem?_range hj, Option.map_some]
     rw [Array.getElem?_eq_getElem (by omega), Array.getD_eq_getD_getElem?, Array.getElem?_eq_getElem (by omega)]
     rfl
    refine ⟨r, ?_, ?_, ?_, k1, by omega, ?_⟩
    ·exact run_loadCells P w _ n r hrl (fun j hj => by rw [add_addr, cell_at h4]; exact hrj j hj)
    ·refine VRs.mk (by omega) (fun j a hj => ?_)
     have hjn : j < n := by have := (List.getElem?_eq_some_iff.1 hj).1; omega
     obtain ⟨a', q1, _, x, q3, q4⟩ := hex j hjn
     rw [hj] at q1; cases q1
     exact ⟨x, by rw [← hrj j hjn]; exact q3, q4⟩
    ·intro a ha
     obtain ⟨j, hj, rfl⟩ := List.getElem_of_mem ha
     obtain ⟨a', q1, q2, _⟩ := hex j (by omega)
     rw [List.getElem?_eq_getElem hj] at q1; cases q1; exact q2
    ·intro j hj; rw [cell_at h4]; exact hrj j hj
   ·cases hr
  ·cases hr
 ·cases hr
theorem run_storeCells (P : Program) (a : Addr) : ∀ (r : List Value) (i : Nat) (w : World) (vs : Array Value) (e : TypeId) (lo hi : Nat), a.spot = none → w.heap[a.block]? = some (.cells vs e (lo, hi)) →
  (∀ v ∈ r, v.oneCell' = true) → a.off + i + r.length ≤ vs.size → (∀ j, a.off + i ≤ j → j < a.off + i + r.length → ¬ (lo ≤ j ∧ j < hi)) →
  ∃ w' vs', (storeCells a r i).run P w = .ok () w' ∧ w'.heap[a.block]? = some (.cells vs' e (lo, hi)) ∧ vs'.size = vs.size ∧ (∀ k, k ≠ a.block → w'.heap[k]? = w.heap[k]?) ∧
   w'.heap.size = w.heap.size ∧ w'.os = w.os ∧ w'.tape = w.tape ∧ w'.output = w.output ∧ (∀ j, vs'[j]? = if a.off + i ≤ j ∧ j < a.off + i + r.length then r[j - (a.off + i)]? else vs[j]?)
 | [], i, w, vs, e, lo, hi, _, hb, _, _, _ => by
  refine ⟨w, vs, rfl, hb, rfl, fun _ _ => rfl, rfl, rfl, rfl, rfl, fun j => ?_⟩
  rw [if_neg (by simp)]
 | v :: r, i, w, vs, e, lo, hi, hs, hb, hv, hsz, hf => by
  simp only [List.length_cons] at hsz hf
  have hadd : a.add i = ⟨a.block, a.off + i, none⟩ := by
   unfold Addr.add
   by_cases h : i = 0
   ·subst h; simp; cases a; simp_all
   ·rw [if_neg h]
  have hcell : w.cell? (a.add i) = some (vs[a.off + i]'(by omega)) := by
   rw [hadd, cell_at hb, Array.getElem?_eq_getElem]
  have hfz : w.frozen? (a.add i) = false := by
   rw [hadd]
   simp only [World.frozen?, hb]
   have := hf (a.off + i) (by omega) (by omega)
   simp only [Bool.and_eq_false_iff, decide_eq_false_iff_not]
   omega
  have hrun : (store (a.add i) v).run P w = .ok () (w.setCell (a.add i) v) := by
   rw [run_store P w _ v .plain (hv v (by simp)), hcell]
   simp [hfz]
  have hblk : (w.setCell (a.add i) v).heap[a.block]? = some (.cells (vs.setIfInBounds (a.off + i) v) e (lo, hi)) := by
   rw [hadd]
   simp only [World.setCell, Array.getElem?_modify, if_true, hb, Option.map_some]
   simp
  obtain ⟨w', vs', h1, h2, h3, h4, h5, h6, h7, h8, h9⟩ := run_storeCells P a r (i + 1) (w.setCell (a.add i) v) _ e lo hi hs hblk (fun x hx => hv x (by simp [hx]))
   (by rw [Array.size_setIfInBounds]; omega) (fun j hj hj' => hf j (by omega) (by omega))
  refine ⟨w', vs', ?_, h2, by rw [h3, Array.size_setIfInBounds], ?_, ?_, h6, h7, h8, ?_⟩
  ·simp only [storeCells, Sem.run_bind, hrun, Result.andThen_ok]; exact h1
  ·intro k hk
   rw [h4 k hk]
   exact Below.heap_setCell w (a.add i) v k (by rw [hadd]; exact hk)
  ·rw [h5, World.size_setCell]
  ·intro j
   rw [h9 j]
   by_cases hj : a.off + (i + 1) ≤ j ∧ j < a.off + (i + 1) + r.length
   ·rw [if_pos hj, if_pos (by simp only [List.length_cons]; omega)]
    have : j - (a.off + i) = (j - (a.off + (i + 1))) + 1 := by omega
    rw [this, List.getElem?_cons_succ]
   ·rw [if_neg hj, Array.getElem?_setIfInBounds]
    by_cases hj' : a.off + i = j
    ·subst hj'
     rw [if_pos rfl, if_pos (by omega), if_pos (by simp only [List.length_cons]; omega)]
     simp
    ·rw [if_neg hj', if_neg (by simp only [List.length_cons]; omega)]
theorem VRs.get' {C : CM} {l : List AV} {r : List Value} (h : VRs C l r) {i : Nat} (hi : i < l.length) : ∃ a v, l[i]? = some a ∧ r[i]? = some v ∧ VR C a v := by
 obtain ⟨v, h1, h2⟩ := h.get (List.getElem?_eq_getElem hi)
 exact ⟨_, v, List.getElem?_eq_getElem hi, h1, h2⟩
theorem VRs.one {C : CM} : ∀ {l : List AV} {r : List Value}, VRs C l r → (∀ a ∈ l, a.one = true) → ∀ v ∈ r, v.oneCell' = true
 | _, _, .nil, _, v, hv => by simp at hv
 | _, _, .cons e es, h, v, hv => by
  rcases List.mem_cons.1 hv with rfl | hv
  ·rw [e.one]; exact h _ (by simp)
  ·exact VRs.one es (fun a ha => h a (by simp [ha])) v hv
theorem CellsR.lay {C : CM} {c : Tr AV} {len len' : Nat} {vs vs' : Array Value} {d i : Nat} {l : List AV} {r : List Value} (h : CellsR C c len vs d) (hv : VRs C l r) (h1 : ∀ a ∈ l, a.one = true)
  (hi : i ≤ len) (_hle : i + l.length ≤ len') (hcov : len' ≤ len ∨ len' = i + l.length)
  (hvs : ∀ j, vs'[j]? = if d + i ≤ j ∧ j < d + i + r.length then r[j - (d + i)]? else vs[j]?) : CellsR C (ofListFrom l i c) len' vs' d := by
 intro k hk
 rw [get_ofList l i c k]
 have hlen := hv.length
 rw [hvs]
 by_cases hk' : i ≤ k ∧ k < i + l.length
 ·rw [if_pos hk', if_pos (by omega)]
  obtain ⟨a, v, q1, q2, q3⟩ := hv.get' (i := k - i) (by omega)
  refine ⟨a, q1, h1 a (List.mem_of_getElem? q1), v, ?_, q3⟩
  rw [show d + k - (d + i) = k - i from by omega]; exact q2
 ·rw [if_neg hk', if_neg (by omega)]
  exact h k (by omega)
theorem Rel.write {w0 : World} {C : CM} {H H' : Heap} {w : World} (h : Rel w0 C H w) (P : Program) {o v i : Nat} {l : List AV} (hw : writeAt H o v i l = some H') {L : Loc} (hL : C o v = some L)
  {r : List Value} (hr : VRs C l r) (h1 : ∀ a ∈ l, a.one = true) : ∃ w', (storeCells ⟨L.b, L.d + i, none⟩ r).run P w = .ok () w' ∧ Rel w0 C H' w' := by
 unfold writeAt at hw
 split at hw
 ·rename_i c len ver hg
  split at hw
  ·rename_i hv
   have hv' := Nat.eq_of_beq_eq_true hv
   subst hv'
   split at hw
   ·rename_i hle
    have hle' : i + l.length ≤ len := Nat.le_of_ble_eq_true hle
    cases hw
    have ho := h.fresh _ _ _ hL
    have hob := h.obj o _ ho hg
    obtain ⟨q1, q2, q3, vs, e, lo, hi, q4, q5, q6, q7⟩ := hob L hL
    have hrl := hr.length
    obtain ⟨w', vs', k1, k2, k3, k4, k5, k6, k7, k8, k9⟩ := run_storeCells P ⟨L.b, L.d + i, none⟩ r 0 w vs e lo hi rfl q4 (hr.one h1) (by dsimp; omega) (fun j hj hj' => by dsimp at hj hj'; exact q6 j (by omega) (by omega))
    refine ⟨w', k1, h.put ho _ ?_ (by omega) ?_ ?_ ?_⟩
    ·exact h.low.trans ⟨k6, k7, k8, by omega, fun k hk => k4 k (by dsimp; have := q2 rfl; omega)⟩
    ·intro o' v' L' hne hL'
     refine k4 _ (fun e' => hne ?_)
     exact (h.excl _ _ _ _ _ _ hL hL' e'.symm (q2 rfl)).symm
    ·intro L' hL'
     rw [hL] at hL'; cases hL'
     refine ⟨q1, q2, q3, vs', e, lo, hi, k2, by omega, q6, q7.lay hr h1 (by omega) hle' (.inl (Nat.le_refl _)) (fun j => ?_)⟩
     rw [k9 j]
     rfl
    ·intro c' len' ver' ro' he v' L' hL'
     cases he
     exact h.top _ _ _ _ _ ho hg _ _ hL'
   ·cases hw
  ·cases hw
 ·cases hw
theorem Rel.newRow {w0 : World} {C : CM} {H H' : Heap} {w : World} (h : Rel w0 C H w) {l : List AV} {o : Nat} (hn : newObj H l = some (o, H')) (e : TypeId) (fz : Nat × Nat) {vs : Array Value}
  (hle : l.length ≤ vs.size) (hv : VRs C l (vs.toList.take l.length)) (h1 : ∀ a ∈ l, a.one = true) (hfz : ∀ i, i < vs.size → ¬ (fz.1 ≤ i ∧ i < fz.2)) :
  ∃ C', C.le C' ∧ Rel w0 C' H' (w.alloc (.cells vs e fz)) ∧ C' o 0 = some ⟨w.heap.size, 0, l.length, vs.size⟩ := by
 unfold Sv.newObj at hn
 cases hn
 have hle' : C.le (C.ext H.next 0 ⟨w.heap.size, 0, l.length, vs.size⟩) := CM.le_ext _ (h.next_none 0) (.inr (Nat.le_of_eq h.nx))
 refine ⟨C.ext H.next 0 ⟨w.heap.size, 0, l.length, vs.size⟩, hle', (h.push _ _ l.length vs.size ?_).1, CM.ext_same _ _ _ _⟩
 intro L hL
 rw [CM.ext_same] at hL
 cases hL
 refine ⟨rfl, fun _ => h.low.size, by dsimp; omega, vs, e, fz.1, fz.2, heap_alloc_new _ _, Nat.le_refl _, fun i _ hi => hfz i hi, ?_⟩
 intro k hk
 rw [get_ofList l 0 .e k, if_pos (by omega)]
 obtain ⟨a, v, q1, q2, q3⟩ := hv.get' (i := k) hk
 refine ⟨a, by simpa using q1, h1 a (List.mem_of_getElem? q1), v, ?_, q3.mono hle'⟩
 rw [List.getElem?_take_of_lt hk] at q2
 simpa using q2
end Go.Sv
namespace Go.Sv
open Go.RowKit (Below)
section sem
variable {P : Program} {w : World}
theorem run_und {t : TypeId} {d : TypeDesc} (h : P.underlying t = some d) : (underlying t).run P w = .ok d w := by
 simp [underlying, h]
theorem run_info {t : TypeId} {i : TypeInfo} (h : P.info? t = some i) : (typeInfo t).run P w = .ok i w := by
 simp [typeInfo, h]
theorem run_size {t : TypeId} {n : Nat} (h : sizeT P t = some n) : (sizeOf t).run P w = .ok n w := by
 unfold sizeT at h
 cases hi : P.info? t with
 | none => simp [hi] at h
 | some i => simp only [hi, Option.map_some, Option.some.injEq] at h; simp [sizeOf, run_info hi, h]
theorem run_isAgg {t : TypeId} {b : Bool} (h : aggT P t = some b) : (isAgg t).run P w = .ok b w := by
 unfold aggT at h
 cases hu : P.underlying t with
 | none => simp [hu] at h
 | some d => cases d <;> simp [hu] at h <;> subst h <;> simp [isAgg, run_und hu]
theorem run_zeroT {t : TypeId} {l : List AV} (h : zeroT P t = some l) : ∃ v i, (zeroValue t).run P w = .ok v w ∧ absL v.cells.toList = some l ∧ P.info? t = some i ∧ l.length = i.size := by
 unfold zeroT at h
 cases hi : P.info? t with
 | none => simp [hi] at h
 | some i =>
  simp only [hi] at h
  cases hz : i.zero with
  | none => simp [hz] at h
  | some v =>
   simp only [hz] at h
   cases ha : absL v.cells.toList with
   | none => simp [ha] at h
   | some r =>
    simp only [ha] at h
    split at h
    ·cases h; rename_i hl; exact ⟨v, i, by simp [zeroValue, run_info hi, hz], ha, rfl, hl⟩
    ·cases h
theorem run_zeroV {t : TypeId} {a : AV} (h : zeroV P t = some a) : ∃ v, (zeroValue t).run P w = .ok v w ∧ absV v = some a := by
 unfold zeroV at h
 cases hi : P.info? t with
 | none => simp [hi] at h
 | some i =>
  simp only [hi] at h
  cases hz : i.zero with
  | none => simp [hz] at h
  | some v => simp only [hz] at h; exact ⟨v, by simp [zeroValue, run_info hi, hz], h⟩
end sem
def OpdOk (C : CM) (E : Tr AV) (ρ : Operand → Value) : Prop := ∀ x a, (opd x).run E = some a → VR C a (ρ x)
theorem opd_spec {n : Nat} {C : CM} {E : Tr AV} {a : Act} (h : ER n C E a.tmps) : OpdOk C E a.eval := by
 intro x av hx
 cases x with
 | tmp t =>
  unfold opd at hx
  dsimp only at hx
  split at hx
  ·rename_i hb
   have := h.2.2 t (Nat.le_of_ble_eq_true hb)
   dsimp only at hx
   show VR C av (a.tmps.getD t undef)
   cases hg : getP (pathOf t) E with
   | none => rw [hg] at hx this; cases hx; rw [show a.tmps.getD t undef = undef from this]; exact .tup .nil
   | some b => rw [hg] at hx this; cases hx; exact this
  ·cases hx
 | const v =>
  unfold opd at hx
  dsimp only at hx
  split at hx
  ·rename_i b hb; cases hx; exact absV_spec hb
  ·cases hx
 | global g => cases hx
 | func f => cases hx; exact .fn (.same _ (fun l e => by cases e)) .nil .nil
theorem opds_spec {C : CM} {E : Tr AV} {ρ : Operand → Value} (h : OpdOk C E ρ) : ∀ {xs : List Operand} {l : List AV}, (opds xs).run E = some l → VRs C l (xs.map ρ)
 | [], l, hl => by cases hl; exact .nil
 | x :: xs, l, hl => by
  unfold opds at hl
  dsimp only at hl
  split at hl
  ·cases hl
  ·rename_i a ha
   split at hl
   ·cases hl
   ·rename_i r hr; cases hl; exact .cons (h _ _ ha) (opds_spec h hr)
def ValOk (P : Program) (w0 : World) (C : CM) (w : World) (nx : Sem Next) (v : AV) (H' : Heap) : Prop :=
 ∃ C' w' x, C.le C' ∧ Rel w0 C' H' w' ∧ VR C' v x ∧ (nx.run P w = .ok (.value x) w' ∨ (nx.run P w = .ok .skip w' ∧ x = undef))
def CallOk (P : Program) (C : CM) (w : World) (nx : Sem Next) (t : Tgt) (args : List AV) : Prop :=
 ∃ vs : List Value, VRs C args vs ∧ ((∃ f, t = .fn f ∧ nx.run P w = .ok (.enter f vs.toArray) w) ∨ (∃ l L, t = .yield l ∧ C l 0 = some L ∧ nx.run P w = (Instr.yield L.b vs.toArray).run P w))
def OROk (P : Program) (w0 : World) (C : CM) (w : World) (nx : Sem Next) : OR → Prop
 | .no => True
 | .val v H' => ValOk P w0 C w nx v H'
 | .call t args => CallOk P C w nx t args
def Sound (P : Program) (f : OpF) (nx : (Operand → Value) → Sem Next) : Prop :=
 ∀ w0 C H w E ρ, Rel w0 C H w → OpdOk C E ρ → OROk P w0 C w (nx ρ) (f.run E H)
theorem stuck_sound (P : Program) (nx : (Operand → Value) → Sem Next) : Sound P stuckF nx := fun _ _ _ _ _ _ _ _ => trivial
theorem unary1_sound {P : Program} {x : Operand} {f : Heap → AV → OR} {nx : (Operand → Value) → Sem Next}
  (h : ∀ w0 C H w ρ a, Rel w0 C H w → VR C a (ρ x) → OROk P w0 C w (nx ρ) (f H a)) : Sound P (unary1 x f) nx := by
 intro w0 C H w E ρ hR hρ
 show OROk P w0 C w (nx ρ) (Option.rec OR.no (fun a => f H a) ((opd x).run E))
 cases hx : (opd x).run E with
 | none => exact trivial
 | some a => exact h _ _ _ _ _ _ hR (hρ _ _ hx)
theorem binary2_sound {P : Program} {x y : Operand} {f : Heap → AV → AV → OR} {nx : (Operand → Value) → Sem Next}
  (h : ∀ w0 C H w ρ a b, Rel w0 C H w → VR C a (ρ x) → VR C b (ρ y) → OROk P w0 C w (nx ρ) (f H a b)) : Sound P (binary2 x y f) nx := by
 intro w0 C H w E ρ hR hρ
 show OROk P w0 C w (nx ρ) (Option.rec OR.no (fun a => Option.rec OR.no (fun b => f H a b) ((opd y).run E)) ((opd x).run E))
 cases hx : (opd x).run E with
 | none => exact trivial
 | some a =>
  cases hy : (opd y).run E with
  | none => exact trivial
  | some b => exact h _ _ _ _ _ _ _ hR (hρ _ _ hx) (hρ _ _ hy)
theorem val_same {P : Program} {w0 : World} {C : CM} {H : Heap} {w : World} {nx : Sem Next} {v : AV} {x : Value} (hR : Rel w0 C H w) (hv : VR C v x) (hrun : nx.run P w = .ok (.value x) w) :
  ValOk P w0 C w nx v H := ⟨C, w, x, CM.le_refl C, hR, hv, .inl hrun⟩
theorem move_sound (P : Program) (x : Operand) : Sound P (unary1 x fun H a => .val a H) (fun ρ => pure (.value (ρ x))) :=
 unary1_sound fun _ _ _ _ _ _ hR hv => val_same hR hv rfl
theorem pick_sound (P : Program) (c a b : Operand) : Sound P (compOp P (.pick c a b)) (fun ρ => do pure (.value (if ← asBool (ρ c) then ρ a else ρ b))) := by
 intro w0 C H w E ρ hR hρ
 show OROk P w0 C w _ (match (opd c).run E with
  | some (.bool true) => ret1 H ((opd a).run E)
  | some (.bool false) => ret1 H ((opd b).run E)
  | _ => .no)
 split
 ·rename_i hc
  have hc' := hρ _ _ hc
  cases ha : (opd a).run E with
  | none => exact trivial
  | some v =>
   have hv := hρ _ _ ha
   refine val_same hR hv ?_
   cases hcv : ρ c <;> rw [hcv] at hc' <;> cases hc'
   simp [asBool, hcv]
 ·rename_i hc
  have hc' := hρ _ _ hc
  cases hb : (opd b).run E with
  | none => exact trivial
  | some v =>
   have hv := hρ _ _ hb
   refine val_same hR hv ?_
   cases hcv : ρ c <;> rw [hcv] at hc' <;> cases hc'
   simp [asBool, hcv]
 ·exact trivial
theorem newVar_ok {P : Program} {w0 : World} {C : CM} {H : Heap} {w : World} (hR : Rel w0 C H w) (t : TypeId) {l : List AV} {cs : Array Value} (hv : VRs C l cs.toList) (h1 : ∀ a ∈ l, a.one = true)
  {nx : Sem Next} (hnx : nx.run P w = .ok (.value (.pointer (some ⟨w.heap.size, 0, none⟩))) (w.alloc (.cells cs t))) : OROk P w0 C w nx (newVarA H l) := by
 unfold newVarA
 cases hn : newObj H l with
 | none => exact trivial
 | some r =>
  obtain ⟨o, H'⟩ := r
  have hlen : l.length = cs.toList.length := hv.length
  have hlen' : l.length = cs.size := by simpa using hlen
  obtain ⟨C', hle, hR', hC'⟩ := hR.newRow hn t (0, 0) (vs := cs) (by omega) (by rw [hlen, List.take_length]; exact hv) h1 (by simp)
  exact ⟨C', _, _, hle, hR', by simpa using VR.ptr (i := 0) hC', .inl hnx⟩
theorem alloc_sound (P : Program) (t : TypeId) : Sound P (compOp P (.alloc t)) (fun _ => do pure (.value (← Instr.alloc t true (.tuple #[])))) := by
 intro w0 C H w E ρ hR hρ
 show OROk P w0 C w _ (OpF.run (match zeroT P t with
  | some l => ⟨fun _ H => newVarA H l⟩
  | none => stuckF) E H)
 cases hz : zeroT P t with
 | none => exact trivial
 | some l =>
  obtain ⟨v, i, h1, h2, h3, h4⟩ := run_zeroT (w := w) hz
  obtain ⟨k1, k2⟩ := absL_spec (C := C) h2
  refine newVar_ok hR t k1 k2 ?_
  simp [Instr.alloc, h1, newVar, newRow]
theorem box_sound (P : Program) (t : TypeId) (x : Operand) : Sound P (compOp P (.box t x)) (fun ρ => do pure (.value (← Instr.box t (ρ x)))) := by
 refine unary1_sound fun w0 C H w ρ a hR hv => ?_
 cases hc : a.cells with
 | none => exact trivial
 | some l =>
  obtain ⟨k1, k2⟩ := hv.cells hc
  exact newVar_ok hR t k1 k2 (by simp [Instr.box, newVar, newRow])
theorem load_sound (P : Program) (t : TypeId) (x : Operand) : Sound P (loadF P t x) (fun ρ => do pure (.value (← Instr.loadAt t (ρ x)))) := by
 unfold loadF
 split
 ·rename_i n ha hs
  refine unary1_sound fun w0 C H w ρ a hR hv => ?_
  split
  ·rename_i o v i
   split
   ·rename_i l hl
    generalize hx : ρ x = px at hv
    cases hv with
    | ptr hL =>
     obtain ⟨vs, h1, h2, h3, h4, _⟩ := hR.read P hl hL
     refine val_same hR (.agg (vs := vs.toArray) (by simpa using h2) h3) ?_
     simp [Instr.loadAt, Instr.sureAddr, loadVar, run_isAgg ha, run_size hs, h1]
   ·exact trivial
  ·exact trivial
 ·rename_i n ha hs
  refine unary1_sound fun w0 C H w ρ a hR hv => ?_
  split
  ·rename_i o v i
   split
   ·rename_i c hl
    generalize hx : ρ x = px at hv
    cases hv with
    | ptr hL =>
     obtain ⟨vs, h1, h2, h3, h4, h5, h6⟩ := hR.read P hl hL
     have h6' := h6 0 (by omega)
     match vs, h2 with
     | [u], .cons hu .nil =>
      refine val_same hR hu ?_
      simp only [Nat.add_zero, List.getElem?_cons_zero] at h6'
      simp [Instr.loadAt, Instr.sureAddr, loadVar, run_isAgg ha, h6']
   ·exact trivial
  ·exact trivial
 ·exact stuck_sound P _
theorem store_sound (P : Program) (t : TypeId) (x y : Operand) : Sound P (storeF P t x y) (fun ρ => do Instr.storeAt t (ρ x) (ρ y); pure .skip) := by
 unfold storeF
 split
 ·rename_i n hs
  refine binary2_sound fun w0 C H w ρ a b hR hv hb => ?_
  split
  ·rename_i o v i
   split
   ·rename_i l hl
    split
    ·rename_i hn
     split
     ·rename_i H' hw
      generalize hx : ρ x = px at hv
      cases hv with
      | ptr hL =>
       obtain ⟨k1, k2⟩ := hb.cells hl
       obtain ⟨w', h1, h2⟩ := hR.write P hw hL k1 k2
       refine ⟨C, w', undef, CM.le_refl C, h2, .tup .nil, .inr ⟨?_, rfl⟩⟩
       have hlen : (ρ y).cells.size = n := by have := k1.length; have := Nat.eq_of_beq_eq_true hn; simp at *; omega
       simp [Instr.storeAt, Instr.sureAddr, storeVar, run_size hs, hlen, h1]
     ·exact trivial
    ·exact trivial
   ·exact trivial
  ·exact trivial
 ·exact stuck_sound P _
theorem nilCheck_sound (P : Program) (x : Operand) (o : Oper) (ho : o.op = .nilCheck x) : Sound P (unary1 x nilCheckA) (fun ρ => execOp ρ o) := by
 refine unary1_sound fun w0 C H w ρ a hR hv => ?_
 unfold nilCheckA
 split
 ·generalize hx : ρ x = px at hv
  have hv0 := hv
  cases hv with
  | ptr hL => exact val_same hR hv0 (by simp [execOp, ho, hx])
 ·generalize hx : ρ x = px at hv
  have hv0 := hv
  cases hv with
  | iface h => exact val_same hR hv0 (by simp [execOp, ho, hx])
 ·generalize hx : ρ x = px at hv
  have hv0 := hv
  cases hv with
  | fn h => cases h with
   | same => exact val_same hR hv0 (by simp [execOp, ho, hx])
 ·generalize hx : ρ x = px at hv
  have hv0 := hv
  cases hv with
  | map hL => exact val_same hR hv0 (by simp [execOp, ho, hx])
 ·exact trivial
end Go.Sv
namespace Go.Sv
open Go.RowKit (Below)
theorem kindEq_spec {k k' : IntKind} (h : kindEq k k' = true) : k = k' := by
 cases k <;> cases k' <;> first | rfl | (exact absurd h (by decide))
theorem eqI_spec (a b : Int) : eqI a b = (a == b) := by
 cases a <;> cases b
 ·rename_i x y; show Nat.beq x y = _; rw [Bool.eq_iff_iff]; simp [Nat.beq_eq]; omega
 ·show false = _; symm; rw [beq_eq_false_iff_ne]; intro h; cases h
 ·show false = _; symm; rw [beq_eq_false_iff_ne]; intro h; cases h
 ·rename_i x y; show Nat.beq x y = _; rw [Bool.eq_iff_iff]; simp [Nat.beq_eq]
theorem nblt {a b : Nat} : Nat.blt a b = decide (a < b) := by
 rw [Bool.eq_iff_iff]; simp [Nat.blt, Nat.ble_eq]; omega
theorem ltI_spec (a b : Int) : ltI a b = decide (a < b) := by
 cases a <;> cases b
 ·rename_i x y; show Nat.blt x y = _; rw [nblt, decide_eq_decide]; simp
 ·rename_i x y; show false = _; symm; rw [decide_eq_false_iff_not]; have := Int.negSucc_lt_zero y; simp; omega
 ·rename_i x y; show true = _; symm; rw [decide_eq_true_iff]; have := Int.negSucc_lt_zero x; simp; omega
 ·rename_i x y; show Nat.blt y x = _; rw [nblt, decide_eq_decide]; omega
theorem two_pow_bits (k : IntKind) : 2 ^ k.bits = fullK k := by cases k <;> rfl
theorem wrapA_spec (k : IntKind) (n : Int) : wrapA k n = k.wrap n := by
 cases n with
 | negSucc m => rfl
 | ofNat m =>
  unfold wrapA
  dsimp only
  split
  ·rename_i h
   have h' : m < halfK k := by rw [nblt] at h; simpa using h
   cases k <;> simp only [halfK] at h' <;> simp only [IntKind.wrap, IntKind.bits, IntKind.signed] <;> simp <;> omega
  ·rfl
theorem isZ_spec (b : Int) : isZ b = true ↔ b = 0 := by
 cases b with
 | ofNat n => simp [isZ, Nat.beq_eq]
 | negSucc n => simp [isZ]
section bits
variable {k : IntKind} {x y : Nat}
theorem ofInt_nat (w x : Nat) : BitVec.ofInt w (Int.ofNat x) = BitVec.ofNat w x := by
 show BitVec.ofInt w ((x : Nat) : Int) = _
 exact BitVec.ofInt_natCast w x
theorem bits_and (hx : x < fullK k) (hy : y < fullK k) : (BitVec.ofInt k.bits (Int.ofNat x) &&& BitVec.ofInt k.bits (Int.ofNat y)).toNat = Nat.land x y := by
 rw [← two_pow_bits] at hx hy
 rw [ofInt_nat, ofInt_nat, BitVec.toNat_and, BitVec.toNat_ofNat, BitVec.toNat_ofNat, Nat.mod_eq_of_lt hx, Nat.mod_eq_of_lt hy]; rfl
theorem bits_or (hx : x < fullK k) (hy : y < fullK k) : (BitVec.ofInt k.bits (Int.ofNat x) ||| BitVec.ofInt k.bits (Int.ofNat y)).toNat = Nat.lor x y := by
 rw [← two_pow_bits] at hx hy
 rw [ofInt_nat, ofInt_nat, BitVec.toNat_or, BitVec.toNat_ofNat, BitVec.toNat_ofNat, Nat.mod_eq_of_lt hx, Nat.mod_eq_of_lt hy]; rfl
theorem bits_xor (hx : x < fullK k) (hy : y < fullK k) : (BitVec.ofInt k.bits (Int.ofNat x) ^^^ BitVec.ofInt k.bits (Int.ofNat y)).toNat = Nat.xor x y := by
 rw [← two_pow_bits] at hx hy
 rw [ofInt_nat, ofInt_nat, BitVec.toNat_xor, BitVec.toNat_ofNat, BitVec.toNat_ofNat, Nat.mod_eq_of_lt hx, Nat.mod_eq_of_lt hy]; rfl
theorem bits_andNot (hx : x < fullK k) (_hy : y < fullK k) :
  (BitVec.ofInt k.bits (Int.ofNat x) &&& ~~~(BitVec.ofInt k.bits (Int.ofNat y))).toNat = Nat.xor x (Nat.land x y) := by
 rw [← two_pow_bits] at hx
 rw [ofInt_nat, ofInt_nat]
 apply Nat.eq_of_testBit_eq
 intro i
 rw [BitVec.testBit_toNat, BitVec.getLsbD_and, BitVec.getLsbD_not, BitVec.getLsbD_ofNat, BitVec.getLsbD_ofNat]
 show _ = (x ^^^ (x &&& y)).testBit i
 rw [Nat.testBit_xor, Nat.testBit_and]
 by_cases hi : i < k.bits
 ·simp only [hi, decide_true, Bool.true_and]
  cases x.testBit i <;> cases y.testBit i <;> rfl
 ·have : x.testBit i = false := Nat.testBit_lt_two_pow (Nat.lt_of_lt_of_le hx (Nat.pow_le_pow_right (by omega) (by omega)))
  simp [this, hi]
end bits
theorem minN_spec (a b : Nat) : minN a b = min a b := by
 unfold minN
 split
 ·rename_i h; have := Nat.le_of_ble_eq_true h; omega
 ·rename_i h
  have : ¬ a ≤ b := fun h' => by rw [Nat.ble_eq_true_of_le h'] at h; cases h
  omega
theorem bitsA_spec {P : Program} {w : World} {f : Nat → Nat → Nat} {op : BinOp} {k : IntKind} {a b : Int} {v : AV} (h : bitsA f k a b = some v)
  (hf : ∀ x y : Nat, x < fullK k → y < fullK k → (Op.intBits op k (Int.ofNat x) (Int.ofNat y)).run P w = .ok (.int k (k.wrap (Int.ofNat (f x y)))) w) :
  ∃ n, v = .int k n ∧ (Op.intBits op k a b).run P w = .ok (.int k n) w := by
 unfold bitsA at h
 split at h
 ·rename_i x y
  split at h
  ·rename_i hx
   split at h
   ·rename_i hy
    cases h
    rw [nblt] at hx hy
    exact ⟨_, rfl, by rw [hf x y (by simpa using hx) (by simpa using hy), wrapA_spec]⟩
   ·cases h
  ·cases h
 ·cases h
theorem arith_spec (P : Program) (w : World) {op : BinOp} {k : IntKind} {a b : Int} {v : AV} (t : TypeId) (h : arith op k a b = some v) :
  ∃ x, (binOp op t (.int k a) (.int k b)).run P w = .ok x w ∧ ∀ C, VR C v x := by
 cases op <;> simp only [arith] at h
 case add => cases h; exact ⟨_, by simp [binOp, Op.intArith]; rfl, fun C => by rw [wrapA_spec]; exact .int k _⟩
 case sub => cases h; exact ⟨_, by simp [binOp, Op.intArith]; rfl, fun C => by rw [wrapA_spec]; exact .int k _⟩
 case mul => cases h; exact ⟨_, by simp [binOp, Op.intArith]; rfl, fun C => by rw [wrapA_spec]; exact .int k _⟩
 case quo =>
  split at h
  ·cases h
  ·rename_i hz
   cases h
   have hb : b ≠ 0 := fun e => by rw [(isZ_spec b).2 e] at hz; cases hz
   exact ⟨.int k (k.wrap (a.tdiv b)), by simp [binOp, Op.intDiv, hb], fun C => by rw [wrapA_spec]; exact .int k _⟩
 case rem =>
  split at h
  ·cases h
  ·rename_i hz
   cases h
   have hb : b ≠ 0 := fun e => by rw [(isZ_spec b).2 e] at hz; cases hz
   exact ⟨.int k (a.tmod b), by simp [binOp, Op.intDiv, hb], fun C => .int k _⟩
 case and =>
  obtain ⟨n, rfl, hr⟩ := bitsA_spec (P := P) (w := w) (op := .and) h (fun x y hx hy => by simp only [Op.intBits, bits_and hx hy]; rfl)
  exact ⟨_, by simpa [binOp] using hr, fun C => .int k n⟩
 case or =>
  obtain ⟨n, rfl, hr⟩ := bitsA_spec (P := P) (w := w) (op := .or) h (fun x y hx hy => by simp only [Op.intBits, bits_or hx hy]; rfl)
  exact ⟨_, by simpa [binOp] using hr, fun C => .int k n⟩
 case xor =>
  obtain ⟨n, rfl, hr⟩ := bitsA_spec (P := P) (w := w) (op := .xor) h (fun x y hx hy => by simp only [Op.intBits, bits_xor hx hy]; rfl)
  exact ⟨_, by simpa [binOp] using hr, fun C => .int k n⟩
 case andNot =>
  obtain ⟨n, rfl, hr⟩ := bitsA_spec (P := P) (w := w) (op := .andNot) h (fun x y hx hy => by simp only [Op.intBits, bits_andNot hx hy]; rfl)
  exact ⟨_, by simpa [binOp] using hr, fun C => .int k n⟩
 case eql => cases h; exact ⟨_, by simp [binOp, Op.intCmp]; rfl, fun C => by rw [eqI_spec]; exact .bool _⟩
 case neq => cases h; exact ⟨.bool (a != b), by simp [binOp, Op.intCmp], fun C => by rw [eqI_spec]; exact .bool _⟩
 case lss => cases h; exact ⟨_, by simp [binOp, Op.intCmp]; rfl, fun C => by rw [ltI_spec]; exact .bool _⟩
 case gtr => cases h; exact ⟨_, by simp [binOp, Op.intCmp]; rfl, fun C => by rw [ltI_spec]; exact .bool _⟩
 case leq =>
  cases h
  refine ⟨.bool (decide (a ≤ b)), by simp [binOp, Op.intCmp], fun C => ?_⟩
  rw [ltI_spec, show (!decide (b < a)) = decide (a ≤ b) from by rw [Bool.eq_iff_iff]; simp]
  exact .bool _
 case geq =>
  cases h
  refine ⟨.bool (decide (a ≥ b)), by simp [binOp, Op.intCmp], fun C => ?_⟩
  rw [ltI_spec, show (!decide (a < b)) = decide (a ≥ b) from by rw [Bool.eq_iff_iff]; simp]
  exact .bool _
 all_goals cases h
theorem shiftA_spec (P : Program) (w : World) {op : BinOp} (hop : op = .shl ∨ op = .shr) {k k' : IntKind} {a b : Int} {v : AV} (t : TypeId) (h : shiftA op k a b = some v) :
  ∃ x, (binOp op t (.int k a) (.int k' b)).run P w = .ok x w ∧ ∀ C, VR C v x := by
 unfold shiftA at h
 split at h
 ·rename_i x y
  rcases hop with rfl | rfl
  ·simp only [Option.some.injEq] at h
   subst h
   refine ⟨.int k (k.wrap (Int.ofNat x * 2 ^ (min y k.bits))), ?_, fun C => ?_⟩
   ·have : ¬ ((Int.ofNat y) < 0) := by simp
    simp only [binOp, Op.shift]
    rw [if_neg this]
    rfl
   ·rw [wrapA_spec, minN_spec]
    have : Int.ofNat (x.mul (Nat.pow 2 (min y k.bits))) = Int.ofNat x * 2 ^ (min y k.bits) := by
     show ((x * 2 ^ (min y k.bits) : Nat) : Int) = _
     simp
    rw [this]; exact .int k _
  ·simp only [Option.some.injEq] at h
   subst h
   refine ⟨.int k ((Int.ofNat x).fdiv (2 ^ (min y k.bits))), ?_, fun C => ?_⟩
   ·have : ¬ ((Int.ofNat y) < 0) := by simp
    simp only [binOp, Op.shift]
    rw [if_neg this]
    rfl
   ·rw [minN_spec]
    have : Int.ofNat (x.div (Nat.pow 2 (min y k.bits))) = (Int.ofNat x).fdiv (2 ^ (min y k.bits)) := by
     show ((x / 2 ^ (min y k.bits) : Nat) : Int) = ((x : Nat) : Int).fdiv (2 ^ (min y k.bits))
     have e : ((2 : Int) ^ (min y k.bits)) = ((2 ^ (min y k.bits) : Nat) : Int) := by simp
     rw [e, Int.fdiv_eq_ediv_of_nonneg _ (Int.natCast_nonneg _)]
     rfl
    rw [this]; exact .int k _
 ·cases h
end Go.Sv
namespace Go.Sv
open Go.RowKit (Below)
theorem packL_append : ∀ a b : List UInt8, packL (a ++ b) = packL a + packL b * 256 ^ a.length
 | [], b => by simp [packL]
 | x :: a, b => by
  simp only [List.cons_append, packL, packL_append a b, List.length_cons, Nat.pow_succ]
  rw [Nat.mul_add, Nat.add_assoc, Nat.mul_comm (256 ^ a.length) 256, Nat.mul_left_comm 256]
theorem packL_inj : ∀ {a b : List UInt8}, a.length = b.length → packL a = packL b → a = b
 | [], [], _, _ => rfl
 | [], _ :: _, h, _ => by simp at h
 | _ :: _, [], h, _ => by simp at h
 | x :: a, y :: b, h, k => by
  simp only [packL] at k
  have hx := x.toNat_lt
  have hy := y.toNat_lt
  have h1 : x.toNat = y.toNat := by omega
  have h2 : packL a = packL b := by omega
  rw [packL_inj (by simpa using h) h2, UInt8.toNat_inj.1 h1]
theorem packL_drop : ∀ (i : Nat) (l : List UInt8), packL (l.drop i) = packL l / 256 ^ i
 | 0, l => by simp
 | i + 1, [] => by simp [packL]
 | i + 1, b :: l => by
  rw [List.drop_succ_cons, packL_drop i l]
  have hb := b.toNat_lt
  simp only [packL, Nat.pow_succ]
  rw [Nat.mul_comm (256 ^ i) 256, ← Nat.div_div_eq_div_mul]
  congr 1
  omega
theorem packL_take : ∀ (i : Nat) (l : List UInt8), packL (l.take i) = packL l % 256 ^ i
 | 0, l => by simp [packL, Nat.mod_one]
 | i + 1, [] => by simp [packL]
 | i + 1, b :: l => by
  rw [List.take_succ_cons]
  simp only [packL]
  rw [packL_take i l, Nat.pow_succ, Nat.mul_comm (256 ^ i) 256]
  have hb := b.toNat_lt
  rw [Nat.mod_mul, Nat.add_mul_mod_self_left, Nat.mod_eq_of_lt hb, Nat.add_mul_div_left _ _ (by omega), Nat.div_eq_of_lt hb, Nat.zero_add]
theorem packL_get {l : List UInt8} {i : Nat} {b : UInt8} (h : l[i]? = some b) : packL l / 256 ^ i % 256 = b.toNat := by
 rw [← packL_drop]
 have hi := (List.getElem?_eq_some_iff.1 h).1
 rw [List.drop_eq_getElem_cons hi, packL, (List.getElem?_eq_some_iff.1 h).2]
 have hb := b.toNat_lt
 omega
theorem unpack_pack : ∀ l : List UInt8, unpackL l.length (packL l) = l.map (·.toNat)
 | [] => rfl
 | b :: l => by
  have hb := b.toNat_lt
  simp only [List.length_cons, unpackL, packL, List.map_cons]
  have e1 : Nat.mod (b.toNat + 256 * packL l) 256 = b.toNat := by show (b.toNat + 256 * packL l) % 256 = _; omega
  have e2 : Nat.div (b.toNat + 256 * packL l) 256 = packL l := by show (b.toNat + 256 * packL l) / 256 = _; omega
  rw [e1, e2, unpack_pack l]
theorem less_spec : ∀ a b : List UInt8, Op.bytesLess a b = natsLess (a.map (·.toNat)) (b.map (·.toNat))
 | _, [] => by simp [Op.bytesLess, natsLess]
 | [], _ :: _ => by simp [Op.bytesLess, natsLess]
 | x :: a, y :: b => by
  simp only [Op.bytesLess, natsLess, List.map_cons, less_spec a b, nblt]
  have h1 : decide (x < y) = decide (x.toNat < y.toNat) := by rw [decide_eq_decide]; exact UInt8.lt_iff_toNat_lt
  have h2 : (x == y) = Nat.beq x.toNat y.toNat := by
   rw [Bool.eq_iff_iff]; simp [Nat.beq_eq, UInt8.toNat_inj]
  rw [h1, h2]
theorem strEq_spec {a b : ByteArray} : (a.toList == b.toList) = (Nat.beq a.data.toList.length b.data.toList.length && Nat.beq (packL a.data.toList) (packL b.data.toList)) := by
 rw [ByteArray.toList_eq, ByteArray.toList_eq, Bool.eq_iff_iff]
 simp only [beq_iff_eq, Bool.and_eq_true, Nat.beq_eq]
 exact ⟨fun h => by rw [h]; exact ⟨rfl, rfl⟩, fun ⟨h1, h2⟩ => packL_inj h1 h2⟩
theorem strLt_spec {a b : ByteArray} : Op.bytesLess a.toList b.toList = natsLess (unpackL a.data.toList.length (packL a.data.toList)) (unpackL b.data.toList.length (packL b.data.toList)) := by
 rw [ByteArray.toList_eq, ByteArray.toList_eq, less_spec, unpack_pack, unpack_pack]
theorem append_data (a b : ByteArray) : (a ++ b).data.toList = a.data.toList ++ b.data.toList := by
 simp
theorem strOp_spec (P : Program) (w : World) {op : BinOp} {x y : ByteArray} {v : AV} (t : TypeId)
  (h : strOp op x.data.toList.length (packL x.data.toList) y.data.toList.length (packL y.data.toList) = some v) :
  ∃ u, (binOp op t (.string x) (.string y)).run P w = .ok u w ∧ ∀ C, VR C v u := by
 have hb : binOp op t (.string x) (.string y) = Op.stringOp op x y ∨ op = .shl ∨ op = .shr := by cases op <;> simp [binOp]
 rcases hb with hb | rfl | rfl
 ·rw [hb]
  have he := strEq_spec (a := x) (b := y)
  have hl := strLt_spec (a := x) (b := y)
  unfold Op.stringOp
  cases op <;> simp only [strOp] at h
  case add =>
   split at h
   ·rename_i hle
    cases h
    have hle' := Nat.le_of_ble_eq_true hle
    have hsz : x.size + y.size ≤ lim := hle'
    refine ⟨.string (x ++ y), ?_, fun C => .str ?_ ?_⟩
    ·dsimp only
     rw [if_neg]
     ·rfl
     ·simp only [IntKind.max, IntKind.signed, IntKind.bits, if_true]; unfold lim at hsz; omega
    ·rw [append_data, List.length_append]; rfl
    ·rw [append_data, packL_append]; rfl
   ·cases h
  case eql => cases h; exact ⟨_, rfl, fun C => by rw [← he]; exact .bool _⟩
  case neq => cases h; exact ⟨_, rfl, fun C => by rw [← he]; exact .bool _⟩
  case lss => cases h; exact ⟨_, rfl, fun C => by rw [← hl]; exact .bool _⟩
  case leq => cases h; exact ⟨_, rfl, fun C => by rw [← hl, ← he]; exact .bool _⟩
  case gtr => cases h; exact ⟨_, rfl, fun C => by rw [← hl, ← he]; exact .bool _⟩
  case geq => cases h; exact ⟨_, rfl, fun C => by rw [← hl]; exact .bool _⟩
  all_goals cases h
 ·simp [strOp] at h
 ·simp [strOp] at h
end Go.Sv
namespace Go.Sv
open Go.RowKit (Below)
theorem sub1_spec {C : CM} {l r : List AV} {off n : Nat} (h : sub1 l off n = some r) {vs : Array Value} (hv : VRs C l vs.toList) (h1 : ∀ a ∈ l, a.one = true) :
  VRs C r (vs.extract off (off + n)).toList ∧ (∀ a ∈ r, a.one = true) ∧ r.length = n := by
 unfold sub1 at h
 split at h
 ·rename_i hb
  have hb' := Nat.le_of_ble_eq_true hb
  cases h
  have e : (vs.extract off (off + n)).toList = (vs.toList.drop off).take n := by
   rw [Array.toList_extract, List.extract_eq_take_drop, Nat.add_sub_cancel_left]
  refine ⟨by rw [e]; exact (hv.drop off).take n, fun a ha => h1 a (List.mem_of_mem_drop (List.mem_of_mem_take ha)), ?_⟩
  have hle : off + n ≤ l.length := hb'
  simp; omega
 ·cases h
theorem partA_spec {P : Program} {w : World} {C : CM} {t : TypeId} {g : Bool} {n : Nat} (hg : aggT P t = some g) (hn : sizeT P t = some n) {l : List AV} {off : Nat} {a : AV} (h : partA g n l off = some a)
  {vs : Array Value} (hv : VRs C l vs.toList) (h1 : ∀ a ∈ l, a.one = true) : ∃ v, (part t vs off).run P w = .ok v w ∧ VR C a v := by
 unfold partA at h
 cases g with
 | true =>
  simp only at h
  cases hs : sub1 l off n with
  | none => rw [hs] at h; cases h
  | some r =>
   rw [hs] at h; cases h
   obtain ⟨k1, k2, _⟩ := sub1_spec hs hv h1
   exact ⟨_, by simp [part, run_isAgg hg, run_size hn], .agg k1 k2⟩
 | false =>
  simp only at h
  obtain ⟨v, q1, q2⟩ := hv.get h
  have q1' : vs[off]? = some v := by simpa using q1
  exact ⟨v, by simp [part, run_isAgg hg, q1'], q2⟩
theorem partT_spec {P : Program} {w : World} {C : CM} {t : TypeId} {l : List AV} {off : Nat} {a : AV} (h : partT P t l off = some a)
  {vs : Array Value} (hv : VRs C l vs.toList) (h1 : ∀ a ∈ l, a.one = true) : ∃ v, (part t vs off).run P w = .ok v w ∧ VR C a v := by
 unfold partT at h
 split at h
 ·rename_i g n hg hn; exact partA_spec hg hn h hv h1
 ·cases h
theorem fieldsOf_eq {P : Program} {t : TypeId} {fs : Array Field} (h : P.underlying t = some (.struct fs)) : P.fieldsOf t = fs := by simp [Program.fieldsOf, h]
def eqElems (d : Nat) (t : TypeId) (n : Nat) (xs ys : Array Value) : List Nat → Sem Bool
 | [] => pure true
 | i :: l => do
  let a ← part t xs (i * n)
  let b ← part t ys (i * n)
  let r ← Op.equalIn d t a b
  if (!r) = true then pure false else eqElems d t n xs ys l
theorem run_equalIn_array {P : Program} (w : World) (d : Nat) {t e : TypeId} {n s : Nat} (xs ys : Array Value) (ht : P.underlying t = some (.array n e)) (hs : sizeT P e = some s) :
  (Op.equalIn (d + 1) t (.agg xs) (.agg ys)).run P w = (eqElems d e s xs ys (List.range n)).run P w := by
 simp only [Op.equalIn, Sem.run_bind, run_und ht, Result.andThen_ok, run_size hs, Std.Legacy.Range.forIn_eq_forIn_range']
 have : List.range' 0 n = List.range n := List.range_eq_range'.symm
 simp only [Std.Legacy.Range.size, Nat.sub_zero, Nat.add_sub_cancel, Nat.div_one, this]
 generalize List.range n = l
 induction l generalizing w with
 | nil => simp [eqElems]
 | cons i l ih =>
  simp only [List.forIn_cons, eqElems, Sem.run_bind, Sem.run_ite]
  generalize (part e xs (i * s)).run P w = r1
  cases r1 with
  | ok a w1 =>
   simp only [Result.andThen_ok]
   generalize (part e ys (i * s)).run P w1 = r2
   cases r2 with
   | ok b w2 =>
    simp only [Result.andThen_ok]
    generalize (Op.equalIn d e a b).run P w2 = r3
    cases r3 with
    | ok r w3 =>
     cases r
     ·simp only [Result.andThen_ok, Bool.not_false, if_true, Sem.run_pure]
     ·simp only [Result.andThen_ok, Bool.not_true, Bool.false_eq_true, if_false, Sem.run_pure]
      exact ih w3
    | halt x w3 => simp [Result.andThen]
   | halt x w2 => simp [Result.andThen]
  | halt x w1 => simp [Result.andThen]
theorem eqFs_spec {P : Program} {w : World} {C : CM} {d : Nat} {f : TypeId → AV → AV → Option Bool}
  (hf : ∀ t a b r x y, f t a b = some r → VR C a x → VR C b y → (Op.equalIn d t x y).run P w = .ok r w)
  {xs ys : List AV} {us vs : Array Value} (hx : VRs C xs us.toList) (hx1 : ∀ a ∈ xs, a.one = true) (hy : VRs C ys vs.toList) (hy1 : ∀ a ∈ ys, a.one = true) :
  ∀ {fs : List Field} {r : Bool}, eqFs P f xs ys fs = some r → (Op.eqFields d us vs fs).run P w = .ok r w
 | [], r, h => by cases h; rfl
 | fd :: fs, r, h => by
  unfold eqFs at h
  split at h
  ·rename_i hn
   have hn' : fd.name ≠ "_" := by simpa using hn
   split at h
   ·rename_i a b ha hb
    obtain ⟨u, q1, q2⟩ := partT_spec (w := w) ha hx hx1
    obtain ⟨v, q3, q4⟩ := partT_spec (w := w) hb hy hy1
    split at h
    ·rename_i he
     have := hf _ _ _ _ _ _ he q2 q4
     simp only [Op.eqFields, if_pos hn', Sem.run_bind, q1, q3, this, Result.andThen_ok]
     simpa using eqFs_spec hf hx hx1 hy hy1 h
    ·rename_i he
     have := hf _ _ _ _ _ _ he q2 q4
     cases h
     simp only [Op.eqFields, if_pos hn', Sem.run_bind, q1, q3, this, Result.andThen_ok]
     simp
    ·cases h
   ·cases h
  ·rename_i hn
   have hn' : fd.name = "_" := by simpa using hn
   simp only [Op.eqFields, hn', ne_eq, not_true_eq_false, if_false]
   exact eqFs_spec hf hx hx1 hy hy1 h
theorem eqEs_spec {P : Program} {w : World} {C : CM} {d : Nat} {f : TypeId → AV → AV → Option Bool} {t : TypeId} {n : Nat}
  (hf : ∀ t a b r x y, f t a b = some r → VR C a x → VR C b y → (Op.equalIn d t x y).run P w = .ok r w)
  {xs ys : List AV} {us vs : Array Value} (hx : VRs C xs us.toList) (hx1 : ∀ a ∈ xs, a.one = true) (hy : VRs C ys vs.toList) (hy1 : ∀ a ∈ ys, a.one = true) :
  ∀ {l : List Nat} {r : Bool}, eqEs P f t n xs ys l = some r → (eqElems d t n us vs l).run P w = .ok r w
 | [], r, h => by cases h; rfl
 | i :: l, r, h => by
  unfold eqEs at h
  split at h
  ·rename_i a b ha hb
   obtain ⟨u, q1, q2⟩ := partT_spec (w := w) ha hx hx1
   obtain ⟨v, q3, q4⟩ := partT_spec (w := w) hb hy hy1
   have q1' : (part t us (i * n)).run P w = .ok u w := q1
   have q3' : (part t vs (i * n)).run P w = .ok v w := q3
   split at h
   ·rename_i he
    have := hf _ _ _ _ _ _ he q2 q4
    simp only [eqElems, Sem.run_bind, q1', q3', this, Result.andThen_ok]
    simpa using eqEs_spec hf hx hx1 hy hy1 h
   ·rename_i he
    have := hf _ _ _ _ _ _ he q2 q4
    cases h
    simp only [eqElems, Sem.run_bind, q1', q3', this, Result.andThen_ok]
    simp
   ·cases h
  ·cases h
set_option maxHeartbeats 1000000 in
theorem eqT1_spec {P : Program} {w : World} {C : CM} {d : Nat} {f : TypeId → AV → AV → Option Bool}
  (hf : ∀ t a b r x y, f t a b = some r → VR C a x → VR C b y → (Op.equalIn d t x y).run P w = .ok r w)
  {t : TypeId} {a b : AV} {r : Bool} {x y : Value} (h : eqT1 P f t a b = some r) (hx : VR C a x) (hy : VR C b y) : (Op.equalIn (d + 1) t x y).run P w = .ok r w := by
  unfold eqT1 at h
  split at h
  case h_1 hu => cases h; cases hx; cases hy; simp [Op.equalIn, run_und hu]
  case h_2 hu =>
   split at h
   ·rename_i hk; cases h; cases hx; cases hy
    have := kindEq_spec hk
    subst this
    simp [Op.equalIn, run_und hu, eqI_spec]
   ·cases h
  case h_3 hu =>
   cases h
   cases hx with
   | str h1 h2 =>
    cases hy with
    | str h3 h4 =>
     subst h1 h2 h3 h4
     rw [← strEq_spec, ← beq_toListBytes]
     simp [Op.equalIn, run_und hu]
  case h_21 hu =>
   split at h
   ·cases h
   ·rename_i hs
    cases hx with
    | agg hx hx1 =>
     cases hy with
     | agg hy hy1 =>
      rw [run_equalIn_struct w d t _ _ (by rw [fieldsOf_eq hu]; exact hu) (by simpa using hs), fieldsOf_eq hu]
      exact eqFs_spec hf hx hx1 hy hy1 h
  case h_22 hu =>
   split at h
   ·rename_i s hs
    cases hx with
    | agg hx hx1 =>
     cases hy with
     | agg hy hy1 =>
      rw [run_equalIn_array w d _ _ hu hs]
      exact eqEs_spec hf hx hx1 hy hy1 h
   ·cases h
  case h_23 => cases h
  all_goals
   rename_i hu
   cases h; cases hx; cases hy; simp [Op.equalIn, run_und hu]
theorem eqT_spec {P : Program} {w : World} {C : CM} (d : Nat) : ∀ (n : Nat) (t : TypeId) (a b : AV) (r : Bool) (x y : Value), eqT P n t a b = some r → VR C a x → VR C b y →
  (Op.equalIn (d + n) t x y).run P w = .ok r w
 | 0, _, _, _, _, _, _, h, _, _ => by cases h
 | n + 1, _, _, _, _, _, _, h, hx, hy => eqT1_spec (fun t a b r x y => eqT_spec d n t a b r x y) h hx hy
end Go.Sv
namespace Go.Sv
open Go.RowKit (Below)
theorem eqGuard_run {P : Program} {w : World} (op : BinOp) (t : TypeId) (x y : Operand) {a b : Value} (h1 : ¬ (a = .nilIface ∧ b = .nilIface)) (h2 : ∀ c d, ¬ (a = .agg c ∧ b = .agg d)) :
  (eqGuard op t x y a b).run P w = .ok () w := by
 unfold eqGuard
 split <;> first
  | rfl
  | (rw [if_neg (by decide)]
     split
     ·exact absurd ⟨rfl, rfl⟩ h1
     ·exact absurd ⟨rfl, rfl⟩ (h2 _ _)
     ·rfl)
theorem eqGuard_ints {P : Program} {w : World} (op : BinOp) (t : TypeId) (x y : Operand) (k k' : IntKind) (a b : Int) : (eqGuard op t x y (.int k a) (.int k' b)).run P w = .ok () w :=
 eqGuard_run op t x y (fun h => by cases h.1) (fun _ _ h => by cases h.1)
theorem eqGuard_ok {P : Program} {w : World} {C : CM} (op : BinOp) (t : TypeId) (x y : Operand) {a b : AV} {u v : Value} (hu : VR C a u) (hv : VR C b v)
  (hg : guardT P (isConstO x || isConstO y) t a b = true) : (eqGuard op t x y u v).run P w = .ok () w := by
 by_cases h1 : u = .nilIface ∧ v = .nilIface
 ·obtain ⟨rfl, rfl⟩ := h1
  cases hu; cases hv
  have hc : (isConstO x || isConstO y) = true := hg
  unfold eqGuard
  split <;> first
   | rfl
   | (rw [if_neg (by decide)]
      dsimp only
      rw [if_pos]
      ·rfl
      ·cases x <;> cases y <;> simp_all [isConstO])
 ·by_cases h2 : ∃ c d, u = .agg c ∧ v = .agg d
  ·obtain ⟨c, d, rfl, rfl⟩ := h2
   cases hu; cases hv
   exact run_eqGuard_agg w op t x y c d (by simpa [guardT] using hg)
  ·exact eqGuard_run op t x y h1 (fun c d h => h2 ⟨c, d, h⟩)
theorem binOp_eql {t : TypeId} {C : CM} {a b : AV} {u v : Value} (hu : VR C a u) (hv : VR C b v) (h1 : ∀ k x k' y, ¬ (a = .int k x ∧ b = .int k' y)) (h2 : ∀ l x m y, ¬ (a = .str l x ∧ b = .str m y)) :
  binOp .eql t u v = (do pure (.bool (← Op.equal t u v))) ∧ binOp .neq t u v = (do pure (.bool (!(← Op.equal t u v)))) := by
 cases hu <;> cases hv <;> first
  | exact ⟨rfl, rfl⟩
  | exact absurd ⟨rfl, rfl⟩ (h1 _ _ _ _)
  | exact absurd ⟨rfl, rfl⟩ (h2 _ _ _ _)
theorem eqA_spec {P : Program} {w : World} {C : CM} {g : Bool} {t : TypeId} {a b : AV} {r : Bool} (h : eqA P g t a b = some r) {u v : Value} (hu : VR C a u) (hv : VR C b v) :
  guardT P g t a b = true ∧ (Op.equal t u v).run P w = .ok r w := by
 unfold eqA at h
 split at h
 ·rename_i hg; exact ⟨hg, eqT_spec 9980 20 t a b r u v h hu hv⟩
 ·cases h
theorem binA_spec {P : Program} {w : World} {C : CM} {op : BinOp} {t : TypeId} (x y : Operand) {a b r : AV} (h : binA P op (isConstO x || isConstO y) t a b = some r) {u v : Value} (hu : VR C a u) (hv : VR C b v) :
  (eqGuard op t x y u v).run P w = .ok () w ∧ ∃ z, (binOp op t u v).run P w = .ok z w ∧ VR C r z := by
 unfold binA at h
 split at h
 ·cases hu; cases hv
  refine ⟨eqGuard_ints op t x y _ _ _ _, ?_⟩
  split at h
  ·obtain ⟨z, h1, h2⟩ := shiftA_spec P w (.inl rfl) t h; exact ⟨z, h1, h2 C⟩
  ·obtain ⟨z, h1, h2⟩ := shiftA_spec P w (.inr rfl) t h; exact ⟨z, h1, h2 C⟩
  ·split at h
   ·rename_i hk
    have := kindEq_spec hk
    subst this
    obtain ⟨z, h1, h2⟩ := arith_spec P w t h; exact ⟨z, h1, h2 C⟩
   ·cases h
 ·cases hu with
  | str h1 h2 =>
   cases hv with
   | str h3 h4 =>
    subst h1 h2 h3 h4
    refine ⟨eqGuard_run op t x y (fun h => by cases h.1) (fun _ _ h => by cases h.1), ?_⟩
    obtain ⟨z, h1, h2⟩ := strOp_spec P w t h
    exact ⟨z, h1, h2 C⟩
 ·rename_i n1 n2
  have hb := binOp_eql (t := t) hu hv (fun k x k' y e => n1 k x k' y e.1 e.2) (fun l x m y e => n2 l x m y e.1 e.2)
  split at h
  ·cases he : eqA P (isConstO x || isConstO y) t a b with
   | none => rw [he] at h; cases h
   | some s =>
    rw [he] at h; cases h
    obtain ⟨h1, h2⟩ := eqA_spec (w := w) he hu hv
    exact ⟨eqGuard_ok _ t x y hu hv h1, .bool s, by rw [hb.1]; simp [h2], .bool s⟩
  ·cases he : eqA P (isConstO x || isConstO y) t a b with
   | none => rw [he] at h; cases h
   | some s =>
    rw [he] at h; cases h
    obtain ⟨h1, h2⟩ := eqA_spec (w := w) he hu hv
    exact ⟨eqGuard_ok _ t x y hu hv h1, .bool (!s), by rw [hb.2]; simp [h2], .bool (!s)⟩
  ·cases h
theorem ret1_ok {P : Program} {w0 : World} {C : CM} {H : Heap} {w : World} {nx : Sem Next} {o : Option AV} (hR : Rel w0 C H w)
  (h : ∀ a, o = some a → ∃ z, nx.run P w = .ok (.value z) w ∧ VR C a z) : OROk P w0 C w nx (ret1 H o) := by
 cases o with
 | none => exact trivial
 | some a => obtain ⟨z, h1, h2⟩ := h a rfl; exact val_same hR h2 h1
theorem bin_sound (P : Program) (op : BinOp) (t yt : TypeId) (x y : Operand) (o : Oper) (ho : o.op = .binOp op t x y yt) : Sound P (compOp P (.binOp op t x y yt)) (fun ρ => execOp ρ o) := by
 refine binary2_sound fun w0 C H w ρ a b hR ha hb => ret1_ok hR fun r hr => ?_
 obtain ⟨h1, z, h2, h3⟩ := binA_spec (w := w) x y hr ha hb
 exact ⟨z, by simp [execOp, ho, h1, h2], h3⟩
theorem un_sound (P : Program) (op : UnOp) (t : TypeId) (x : Operand) (o : Oper) (ho : o.op = .unOp op t x) : Sound P (compOp P (.unOp op t x)) (fun ρ => execOp ρ o) := by
 refine unary1_sound fun w0 C H w ρ a hR ha => ret1_ok hR fun r hr => ?_
 unfold unA at hr
 split at hr
 ·rename_i k n
  cases hr
  generalize hx : ρ x = px at ha
  cases ha
  exact ⟨.int k (k.wrap (0 - n)), by simp [execOp, ho, hx, Op.unary, Op.intArith], by rw [wrapA_spec]; exact .int _ _⟩
 ·rename_i k n
  cases hr
  generalize hx : ρ x = px at ha
  cases ha
  exact ⟨.int k (k.wrap (BitVec.ofInt k.bits (if k.signed then -1 else k.max) ^^^ BitVec.ofInt k.bits n).toNat), by simp [execOp, ho, hx, Op.unary, Op.intBits], .int _ _⟩
 ·rename_i b
  cases hr
  generalize hx : ρ x = px at ha
  cases ha
  exact ⟨.bool (!b), by simp [execOp, ho, hx, Op.unary], .bool _⟩
 ·cases hr
theorem VRs.set {C : CM} : ∀ {l : List AV} {r : List Value}, VRs C l r → ∀ (i : Nat) {a : AV} {v : Value}, VR C a v → VRs C (l.set i a) (r.set i v)
 | _, _, .nil, _, _, _, _ => .nil
 | _, _, .cons _ es, 0, _, _, h => .cons h es
 | _, _, .cons e es, i + 1, _, _, h => .cons e (VRs.set es i h)
theorem one_set {l : List AV} (h : ∀ a ∈ l, a.one = true) {i : Nat} {a : AV} (ha : a.one = true) : ∀ b ∈ l.set i a, b.one = true := by
 intro b hb
 rcases List.mem_or_eq_of_mem_set hb with h' | h'
 ·exact h b h'
 ·rw [h']; exact ha
theorem foldl_lay {C : CM} {off : Nat} : ∀ (l : List AV) (r : List Value) (cs : List AV) (us : Array Value) (j : Nat), VRs C l r → (∀ a ∈ l, a.one = true) → VRs C cs us.toList → (∀ a ∈ cs, a.one = true) →
  VRs C (layL cs (off + j) l) ((r.zipIdx j).foldl (fun cs (c, j) => cs.setIfInBounds (off + j) c) us).toList ∧ (∀ a ∈ layL cs (off + j) l, a.one = true)
 | [], _, cs, us, j, .nil, _, h, h1 => ⟨h, h1⟩
 | a :: l, v :: r, cs, us, j, .cons e es, ha, h, h1 => by
  simp only [layL, List.zipIdx_cons, List.foldl_cons]
  have := foldl_lay (off := off) l r (cs.set (off + j) a) (us.setIfInBounds (off + j) v) (j + 1) es (fun b hb => ha b (by simp [hb]))
   (by rw [Array.toList_setIfInBounds]; exact h.set _ e) (one_set h1 (ha a (by simp)))
  rw [show off + j + 1 = off + (j + 1) from by omega]
  exact this
theorem zipIdx_arr (v : Array Value) (off : Nat) (us : Array Value) : v.zipIdx.foldl (fun cs (c, j) => cs.setIfInBounds (off + j) c) us = (v.toList.zipIdx 0).foldl (fun cs (c, j) => cs.setIfInBounds (off + j) c) us := by
 rw [← Array.foldl_toList, Array.toList_zipIdx]
theorem partsAt_spec {place : Nat → Option (Nat × Nat)} : ∀ {l : List (Nat × Operand)} {ps : List Part}, partsAt place l = some ps →
  ∀ {C : CM} {E : Tr AV} {ρ : Operand → Value}, OpdOk C E ρ → ∀ {cs r : List AV} {us : Array Value}, fillA cs ps E = some r → VRs C cs us.toList → (∀ a ∈ cs, a.one = true) →
  ∃ vs, Instr.fill place us (l.map fun (i, x) => (i, ρ x)) = some vs ∧ VRs C r vs.toList ∧ (∀ a ∈ r, a.one = true)
 | [], ps, h, C, E, ρ, hρ, cs, r, us, hf, hv, h1 => by
  cases h; cases hf; exact ⟨us, rfl, hv, h1⟩
 | (i, x) :: l, ps, h, C, E, ρ, hρ, cs, r, us, hf, hv, h1 => by
  simp only [partsAt] at h
  split at h
  ·cases h
  ·rename_i o s hpl
   split at h
   ·cases h
   ·rename_i ps' hps
    cases h
    simp only [fillA] at hf
    split at hf
    ·cases hf
    ·rename_i a ha
     split at hf
     ·cases hf
     ·rename_i q hq
      split at hf
      ·rename_i hlen
       split at hf
       ·rename_i hle
        have hlen' : q.length = s := Nat.eq_of_beq_eq_true hlen
        have hle' : o + s ≤ cs.length := Nat.le_of_ble_eq_true hle
        obtain ⟨k1, k2⟩ := (hρ _ _ ha).cells hq
        have hsz := k1.length
        have hcs := hv.length
        have hl := foldl_lay (off := o) q _ cs us 0 k1 k2 hv h1
        rw [Nat.add_zero] at hl
        obtain ⟨vs, q1, q2, q3⟩ := partsAt_spec hps hρ hf hl.1 hl.2
        refine ⟨vs, ?_, q2, q3⟩
        have e1 : (ρ x).cells.size = s := by rw [← hlen', hsz]; simp
        have hneg : ¬ ((decide ((ρ x).cells.size ≠ s) || decide (o + (ρ x).cells.size > us.size)) = true) := by
         intro hh
         simp only [ne_eq, Bool.or_eq_true, decide_eq_true_eq] at hh
         rcases hh with hh | hh
         ·exact hh e1
         ·simp at hcs; omega
        rw [List.map_cons]
        simp only [Instr.fill, hpl]
        rw [if_neg hneg, zipIdx_arr]
        exact q1
       ·cases hf
      ·cases hf
theorem fieldsAt_spec {P : Program} {w : World} : ∀ {l : List Field} {r : List (Nat × Nat)}, fieldsAt P l = some r →
  (l.mapM fun f => do pure (f.offset, ← sizeOf f.type) : Sem (List (Nat × Nat))).run P w = .ok r w
 | [], r, h => by cases h; rfl
 | f :: l, r, h => by
  simp only [fieldsAt] at h
  split at h
  ·cases h
  ·rename_i s hs
   split at h
   ·cases h
   ·rename_i r' hr
    cases h
    simp only [List.mapM_cons, Sem.run_bind, run_size hs, Result.andThen_ok, Sem.run_pure, fieldsAt_spec hr]
theorem build_sound (P : Program) (t : TypeId) (parts : Array (Nat × Operand)) : Sound P (buildF P t parts) (fun ρ => do pure (.value (← Instr.build t (parts.map fun (i, x) => (i, ρ x))))) := by
 unfold buildF
 split
 ·exact stuck_sound P _
 ·rename_i cs hz
  split
  ·rename_i fields hu
   split
   ·exact stuck_sound P _
   ·rename_i pl hpl
    split
    ·exact stuck_sound P _
    ·rename_i ps hps
     intro w0 C H w E ρ hR hρ
     dsimp only
     split
     ·rename_i l hl
      obtain ⟨v, i, h1, h2, h3, h4⟩ := run_zeroT (w := w) hz
      obtain ⟨k1, k2⟩ := absL_spec (C := C) h2
      obtain ⟨vs, q1, q2, q3⟩ := partsAt_spec hps hρ hl k1 k2
      refine val_same hR (.agg q2 q3) ?_
      have hm : (fields.mapM fun f => do pure (f.offset, ← sizeOf f.type) : Sem (Array (Nat × Nat))).run P w = .ok pl.toArray w := by
       rw [Array.mapM_eq_mapM_toList]
       simp only [Sem.run_map, fieldsAt_spec hpl, Result.andThen_ok]
      have hf : Instr.fill (pl.toArray[·]?) v.cells (parts.map fun (i, x) => (i, ρ x)).toList = some vs := by
       rw [Array.toList_map]
       have : (fun i : Nat => pl.toArray[i]?) = (fun i : Nat => pl[i]?) := by funext i; simp
       rw [this]; exact q1
      simp only [Instr.build, Sem.run_bind, h1, run_und hu, hm, Result.andThen_ok, hf, Sem.run_pure]
     ·exact trivial
  ·rename_i n elem hu
   split
   ·exact stuck_sound P _
   ·rename_i size hs
    split
    ·exact stuck_sound P _
    ·rename_i ps hps
     intro w0 C H w E ρ hR hρ
     dsimp only
     split
     ·rename_i l hl
      obtain ⟨v, i, h1, h2, h3, h4⟩ := run_zeroT (w := w) hz
      obtain ⟨k1, k2⟩ := absL_spec (C := C) h2
      obtain ⟨vs, q1, q2, q3⟩ := partsAt_spec hps hρ hl k1 k2
      refine val_same hR (.agg q2 q3) ?_
      have hf : Instr.fill (fun i => some (i * size, size)) v.cells (parts.map fun (i, x) => (i, ρ x)).toList = some vs := by
       rw [Array.toList_map]; exact q1
      simp only [Instr.build, Sem.run_bind, h1, run_und hu, run_size hs, Result.andThen_ok, hf, Sem.run_pure]
     ·exact trivial
  ·exact stuck_sound P _
end Go.Sv
namespace Go.Sv
open Go.RowKit (Below)
theorem repeatL_length (l : List AV) : ∀ n, (repeatL l n).length = n * l.length
 | 0 => by simp [repeatL]
 | n + 1 => by rw [repeatL, List.length_append, repeatL_length l n, Nat.succ_mul]; omega
theorem repeatL_one {l : List AV} (h : ∀ a ∈ l, a.one = true) : ∀ n, ∀ a ∈ repeatL l n, a.one = true
 | 0, a, ha => by simp [repeatL] at ha
 | n + 1, a, ha => by
  rw [repeatL, List.mem_append] at ha
  rcases ha with ha | ha
  ·exact h a ha
  ·exact repeatL_one h n a ha
def repV (l : List Value) : Nat → List Value
 | 0 => []
 | n + 1 => l ++ repV l n
theorem repeatL_rel {C : CM} {l : List AV} {r : List Value} (h : VRs C l r) : ∀ n, VRs C (repeatL l n) (repV r n)
 | 0 => .nil
 | n + 1 => h.append (repeatL_rel h n)
theorem repV_length (l : List Value) : ∀ n, (repV l n).length = n * l.length
 | 0 => by simp [repV]
 | n + 1 => by rw [repV, List.length_append, repV_length l n, Nat.succ_mul]; omega
theorem repV_get (l : List Value) : ∀ (n i : Nat), i < n * l.length → (repV l n)[i]? = l[i % l.length]?
 | 0, i, h => by simp at h
 | n + 1, i, h => by
  rw [Nat.succ_mul] at h
  rw [repV]
  by_cases hi : i < l.length
  ·rw [List.getElem?_append_left hi, Nat.mod_eq_of_lt hi]
  ·have hl : 0 < l.length := by
    rcases Nat.eq_zero_or_pos l.length with h0 | h0
    ·rw [h0] at h; omega
    ·exact h0
   rw [List.getElem?_append_right (by omega), repV_get l n _ (by omega), Nat.mod_eq_sub_mod (by omega : l.length ≤ i)]
theorem zeros_eq (z : Array Value) (n : Nat) : ((Array.range (n * z.size)).map fun i => z[i % z.size]!).toList = repV z.toList n := by
 apply List.ext_getElem?
 intro i
 rw [Array.toList_map, List.getElem?_map]
 by_cases hi : i < n * z.size
 ·rw [repV_get _ _ _ (by simpa using hi)]
  have hz : 0 < z.size := by
   rcases Nat.eq_zero_or_pos z.size with h0 | h0
   ·rw [h0] at hi; omega
   ·exact h0
  have hm : i % z.size < z.size := Nat.mod_lt _ hz
  simp [hi, hm, getElem!_pos]
 ·have h1 : (repV z.toList n).length ≤ i := by rw [repV_length]; simp; omega
  rw [List.getElem?_eq_none h1, List.getElem?_eq_none (by simpa using hi)]
  rfl
theorem range0 (f : Nat → Value) : (Array.range 0).map f = #[] := by simp
theorem foldl_set_size (off : Nat) : ∀ (q : List (Value × Nat)) (a : Array Value), (q.foldl (fun cs (c, j) => cs.setIfInBounds (off + j) c) a).size = a.size
 | [], _ => rfl
 | x :: q, a => by rw [List.foldl_cons, foldl_set_size off q]; simp
theorem fill_size {pl : Nat → Option (Nat × Nat)} : ∀ {ps : List (Nat × Value)} {a b : Array Value}, Instr.fill pl a ps = some b → b.size = a.size
 | [], _, _, h => by cases h; rfl
 | (i, v) :: ps, a, b, h => by
  simp only [Instr.fill] at h
  split at h
  ·cases h
  ·split at h
   ·cases h
   ·rw [fill_size h, ← Array.foldl_toList, foldl_set_size]
theorem newSl_ok {P : Program} {w0 : World} {C : CM} {H H' : Heap} {w : World} (hR : Rel w0 C H w) (t : TypeId) {l : List AV} {o len esz : Nat} {cs : Array Value} (hn : newObj H l = some (o, H'))
  (hv : VRs C l cs.toList) (h1 : ∀ a ∈ l, a.one = true) {cap : Nat} (hc : cap * esz = l.length) (hle : len ≤ cap)
  {nx : Sem Next} (hnx : nx.run P w = .ok (.value (.slice (some ⟨w.heap.size, 0, none⟩) len cap)) (w.alloc (.cells cs t))) : ValOk P w0 C w nx (.sl o 0 0 len esz (some cap)) H' := by
 have hlen : l.length = cs.toList.length := hv.length
 have hlen' : l.length = cs.size := by simpa using hlen
 obtain ⟨C', hle', hR', hC'⟩ := hR.newRow hn t (0, 0) (vs := cs) (by omega) (by rw [hlen, List.take_length]; exact hv) h1 (by simp)
 have hmul : len * esz ≤ cap * esz := Nat.mul_le_mul_right _ hle
 refine ⟨C', _, _, hle', hR', ?_, .inl hnx⟩
 have := VR.sl (i := 0) (len := len) (esz := esz) (room := some cap) (cap := cap) hC' (by dsimp; omega) (by dsimp; omega) hle (fun r hr => by cases hr; exact ⟨rfl, by dsimp; omega⟩) (fun h => by cases h)
 simpa using this
theorem buildSlice_sound (P : Program) (t : TypeId) (len : Nat) (parts : Array (Nat × Operand)) :
  Sound P (buildSliceF P t len parts) (fun ρ => do pure (.value (← Instr.buildSlice t len (parts.map fun (i, x) => (i, ρ x))))) := by
 unfold buildSliceF
 split
 ·rename_i elem hu
  split
  ·exact stuck_sound P _
  ·rename_i size hs
   split
   ·exact stuck_sound P _
   ·rename_i z hz
    split
    ·rename_i hcond
     obtain ⟨hsz, hpos⟩ := hcond
     split
     ·exact stuck_sound P _
     ·rename_i ps hps
      intro w0 C H w E ρ hR hρ
      dsimp only
      split
      ·rename_i l hl
       split
       ·rename_i o H' hn
        obtain ⟨v, i, h1, h2, h3, h4⟩ := run_zeroT (w := w) hz
        obtain ⟨k1, k2⟩ := absL_spec (C := C) h2
        have hzs : v.cells.size = size := by
         have e1 := k1.length
         unfold sizeT at hs; rw [h3] at hs; simp at hs e1; omega
        have hzl : z.length = size := by have e1 := k1.length; simp at e1; omega
        have hrel : VRs C (repeatL z len) ((Array.range (len * size)).map fun i => v.cells[i % v.cells.size]!).toList := by
         rw [← hzs, zeros_eq]; exact repeatL_rel k1 len
        obtain ⟨vs, q1, q2, q3⟩ := partsAt_spec hps hρ hl hrel (repeatL_one k2 len)
        have hll : l.length = len * size := by
         have e1 := q2.length
         have e3 := fill_size q1
         simp at e3 e1; omega
        refine newSl_ok hR elem hn q2 q3 hll.symm (Nat.le_refl _) ?_
        have hf : Instr.fill (fun i => some (i * size, size)) ((Array.range (len * size)).map fun i => v.cells[i % v.cells.size]!) (parts.map fun (i, x) => (i, ρ x)).toList = some vs := by
         rw [Array.toList_map]; exact q1
        have hbig : ¬ (len * size > 2 ^ 24) := by omega
        simp only [Instr.buildSlice, Sem.run_bind, run_und hu, run_size hs, Result.andThen_ok, Sem.run_ite, if_neg hbig]
        by_cases h0 : len * size = 0
        ·rw [if_pos h0]
         have hf0 : Instr.fill (fun i => some (i * size, size)) ((Array.range (len * size)).map fun i => (#[] : Array Value)[i % (#[] : Array Value).size]!) (parts.map fun (i, x) => (i, ρ x)).toList = some vs := by
          rw [← hf, h0, range0, range0]
         simp only [Sem.run_pure, Result.andThen_ok, hf0, newRow, Sem.run_bind, run_newObj]
         rfl
        ·rw [if_neg h0]
         simp only [Sem.run_bind, h1, Sem.run_pure, Result.andThen_ok, hf, newRow, run_newObj]
         rfl
       ·exact trivial
      ·exact trivial
    ·exact stuck_sound P _
 ·exact stuck_sound P _
theorem mkSlice_sound (P : Program) (t : TypeId) (l c : Operand) : Sound P (mkSliceF P t l c) (fun ρ => do pure (.value (← Instr.makeSlice t (ρ l) (ρ c)))) := by
 unfold mkSliceF
 split
 ·rename_i elem hu
  split
  ·exact stuck_sound P _
  ·rename_i i hi
   split
   ·exact stuck_sound P _
   ·rename_i z hz
    split
    ·rename_i hcond
     obtain ⟨hpos, hby⟩ := hcond
     refine binary2_sound fun w0 C H w ρ a b hR ha hb => ?_
     split
     ·rename_i x y
      split
      ·rename_i hxy
       split
       ·rename_i hy
        split
        ·rename_i o H' hn
         have hxy' : x ≤ y := Nat.le_of_ble_eq_true hxy
         have hy' : y ≤ 1048576 := Nat.le_of_ble_eq_true hy
         obtain ⟨v, j, h1, h2, h3, h4⟩ := run_zeroT (w := w) hz
         obtain ⟨k1, k2⟩ := absL_spec (C := C) h2
         rw [hi] at h3; cases h3
         have hzs : v.cells.size = i.size := by have e1 := k1.length; simp at e1; omega
         generalize ρ l = pl at ha
         generalize ρ c = pc at hb
         cases ha; cases hb
         refine newSl_ok hR elem hn (cs := (Array.range (y * i.size)).map fun k => v.cells[k % v.cells.size]!) (by rw [← hzs, zeros_eq]; exact repeatL_rel k1 y) (repeatL_one k2 y) (by rw [repeatL_length, h4]) hxy' ?_
         have e1 : IntKind.i64.wrap (Int.ofNat x) = Int.ofNat x := by simp only [IntKind.wrap, IntKind.bits, IntKind.signed]; simp; omega
         have e2 : IntKind.i64.wrap (Int.ofNat y) = Int.ofNat y := by simp only [IntKind.wrap, IntKind.bits, IntKind.signed]; simp; omega
         have e3 : i.bytes * y ≤ 65536 * 1048576 := Nat.mul_le_mul hby hy'
         have e4 : ¬ ((decide (Int.ofNat y < 0) || decide ((i.bytes : Int) * Int.ofNat y > 2 ^ 48) || decide (Int.ofNat x < 0) || decide (Int.ofNat x > Int.ofNat y)) = true) := by
          have e5 : ((i.bytes : Int) * Int.ofNat y) = ((i.bytes * y : Nat) : Int) := by simp
          rw [e5]
          simp only [Bool.or_eq_true, decide_eq_true_eq, not_or]
          refine ⟨⟨⟨by simp, by simp; omega⟩, by simp⟩, by simp; omega⟩
         simp only [Instr.makeSlice, Sem.run_bind, run_und hu, run_info hi, asInt, asIntOf, Sem.run_pure, Result.andThen_ok, e1, e2, Sem.run_ite, if_neg e4, run_askRoom, run_size (show sizeT P elem = some i.size from by simp [sizeT, hi])]
         have e6 : (Int.ofNat y).toNat = y := rfl
         have e7 : (Int.ofNat x).toNat = x := rfl
         rw [e6, e7]
         by_cases h0 : y * i.size = 0
         ·rw [if_pos h0]
          simp only [Sem.run_pure, Result.andThen_ok, newRow, Sem.run_bind, run_newObj]
          have : ((Array.range (y * i.size)).map fun k => (#[] : Array Value)[k % (#[] : Array Value).size]!) = ((Array.range (y * i.size)).map fun k => v.cells[k % v.cells.size]!) := by rw [h0, range0, range0]
          rw [this]; rfl
         ·rw [if_neg h0]
          simp only [Sem.run_bind, h1, Sem.run_pure, Result.andThen_ok, newRow, run_newObj]
          rfl
        ·exact trivial
       ·exact trivial
      ·exact trivial
     ·exact trivial
    ·exact stuck_sound P _
 ·exact stuck_sound P _
theorem mkIface_sound (P : Program) (t : TypeId) (x : Operand) : Sound P (mkIfaceF P t x) (fun ρ => do pure (.value (← Instr.makeInterface t (ρ x)))) := by
 unfold mkIfaceF
 split
 ·exact stuck_sound P _
 ·rename_i d hne hu
  refine unary1_sound fun w0 C H w ρ a hR ha => val_same hR (.iface ha) ?_
  simp only [Instr.makeInterface, Sem.run_bind, run_und hu, Result.andThen_ok]
  cases d <;> first | rfl | exact absurd hu (hne _)
 ·exact stuck_sound P _
theorem mkFunc_sound (P : Program) (f : Fn) (first cap : Array Operand) (hf : ∀ l, f ≠ .yield l) : Sound P (mkFuncF f first cap) (fun ρ => do pure (.value (← Instr.makeFunc f (first.map ρ) (cap.map ρ)))) := by
 intro w0 C H w E ρ hR hρ
 unfold mkFuncF
 dsimp only
 split
 ·rename_i l hl
  split
  ·rename_i r hr
   refine val_same hR (.fn (.same f hf) (l' := first.map ρ) (r' := cap.map ρ) ?_ ?_) rfl
   ·rw [Array.toList_map]; exact opds_spec hρ hl
   ·rw [Array.toList_map]; exact opds_spec hρ hr
  ·exact trivial
 ·exact trivial
theorem pushMap_ok {P : Program} {w0 : World} {C : CM} {H : Heap} {w : World} (hR : Rel w0 C H w) {nx : Sem Next} (hnx : nx.run P w = .ok (.value (.map (some w.heap.size))) (w.alloc (.map #[] 0))) :
  OROk P w0 C w nx (pushMap H) := by
 unfold pushMap
 obtain ⟨h1, h2⟩ := hR.push (.map [] 0) (.map #[] 0) 0 0 (fun L hL => by
  rw [CM.ext_same] at hL; cases hL
  exact ⟨hR.low.size, #[], heap_alloc_new _ _, .nil⟩)
 exact ⟨_, _, _, h2, h1, .map (CM.ext_same _ _ _ _), .inl hnx⟩
theorem mkMap_sound (P : Program) (t : TypeId) (r : Option Operand) : Sound P (mkMapF P t r) (fun ρ => do pure (.value (← Instr.makeMap t (r.map ρ)))) := by
 unfold mkMapF
 split
 ·intro w0 C H w E ρ hR hρ
  exact pushMap_ok hR (by simp [Instr.makeMap])
 ·rename_i x
  split
  ·rename_i k e hu
   refine unary1_sound fun w0 C H w ρ a hR ha => ?_
   split
   ·generalize hx : ρ x = px at ha
    cases ha
    exact pushMap_ok hR (by simp [Instr.makeMap, run_und hu, hx, asInt, asIntOf])
   ·exact trivial
  ·exact stuck_sound P _
theorem fieldAddr_sound (P : Program) (t : TypeId) (x : Operand) (f : Nat) : Sound P (fieldAddrF P t x f) (fun ρ => do pure (.value (← Instr.fieldAt t (ρ x) f))) := by
 unfold fieldAddrF
 split
 ·rename_i fields hu
  split
  ·exact stuck_sound P _
  ·rename_i fd hf
   split
   ·exact stuck_sound P _
   ·exact stuck_sound P _
   ·rename_i n hn hs
    refine unary1_sound fun w0 C H w ρ a hR ha => ?_
    split
    ·rename_i o v i
     generalize hx : ρ x = px at ha
     cases ha with
     | ptr hL =>
      refine val_same hR (.ptr (i := i + fd.offset) hL) ?_
      have hne : n ≠ 0 := hn
      simp [Instr.fieldAt, run_und hu, hf, Instr.sureAddr, fieldPlace, run_size hs, hne, add_addr]
    ·exact trivial
 ·exact stuck_sound P _
theorem field_sound (P : Program) (t : TypeId) (x : Operand) (f : Nat) : Sound P (fieldF P t x f) (fun ρ => do pure (.value (← Instr.field t (ρ x) f))) := by
 unfold fieldF
 split
 ·rename_i fields hu
  split
  ·exact stuck_sound P _
  ·rename_i fd hf
   split
   ·rename_i g n hg hn
    refine unary1_sound fun w0 C H w ρ a hR ha => ?_
    split
    ·generalize hx : ρ x = px at ha
     cases ha with
     | agg ha ha1 =>
      refine ret1_ok hR fun r hr => ?_
      obtain ⟨z, h1, h2⟩ := partA_spec (w := w) hg hn hr ha ha1
      exact ⟨z, by simp [Instr.field, run_und hu, hf, asAgg, h1], h2⟩
    ·exact trivial
   ·exact stuck_sound P _
 ·exact stuck_sound P _
end Go.Sv
namespace Go.Sv
open Go.RowKit (Below)
theorem mul_split {l c : Nat} (e : Nat) (h : l ≤ c) : l * e + (c - l) * e = c * e := by
 rw [← Nat.add_mul]; congr 1; omega
def OptR (r : Option Nat) (v : Option Value) : Prop := match r with
 | none => v = none
 | some n => ∃ k, v = some (.int k (Int.ofNat n))
theorem optF_spec {C : CM} {E : Tr AV} {ρ : Operand → Value} (hρ : OpdOk C E ρ) {x : Option Operand} {r : Option Nat} (h : (optF x).run E = some r) : OptR r (x.map ρ) := by
 cases x with
 | none => cases h; rfl
 | some x =>
  unfold optF at h
  dsimp only at h
  split at h
  ·rename_i k n hx
   cases h
   have := hρ _ _ hx
   generalize hv : ρ x = v at this
   cases this
   exact ⟨k, by simp [hv]⟩
  ·cases h
theorem run_sliceBound {P : Program} {w : World} (k : IntKind) {n y : Nat} (c : BoundsCode) (h : n ≤ y) : (Instr.sliceBound (.int k (Int.ofNat n)) y c).run P w = .ok n w := by
 have : (0 : Int) ≤ Int.ofNat n ∧ Int.ofNat n ≤ (y : Int) := ⟨by simp, by simp; omega⟩
 simp only [Instr.sliceBound, asIntOf, Sem.run_bind, Sem.run_pure, Result.andThen_ok, Sem.run_ite, if_pos this]
 rfl
theorem run_sliceBounds {P : Program} {w : World} (isSlice : Bool) {len cap : Nat} {lo hi mx : Option Nat} {a b c : Option Value} (ha : OptR lo a) (hb : OptR hi b) (hc : OptR mx c)
  (hm : mx.isSome = true → hi.isSome = true) (h1 : lo.getD 0 ≤ hi.getD len) (h2 : hi.getD len ≤ mx.getD cap) (h3 : mx.getD cap ≤ cap) :
  (Instr.sliceBounds isSlice len cap a b c).run P w = .ok (lo.getD 0, hi.getD len, mx.getD cap) w := by
 cases mx with
 | none =>
  cases hc
  simp only [Option.getD_none] at h2 h3
  cases hi with
  | none =>
   cases hb
   cases lo with
   | none => cases ha; simp [Instr.sliceBounds]
   | some l =>
    obtain ⟨k, rfl⟩ := ha
    simp only [Option.getD_some, Option.getD_none] at h1
    simp only [Instr.sliceBounds, Sem.run_bind, Sem.run_pure, Result.andThen_ok, run_sliceBound k _ h1, Option.getD]
  | some h =>
   obtain ⟨k, rfl⟩ := hb
   simp only [Option.getD_some] at h1 h2
   cases lo with
   | none => cases ha; simp only [Instr.sliceBounds, Sem.run_bind, Sem.run_pure, Result.andThen_ok, run_sliceBound k _ h2, Option.getD]
   | some l =>
    obtain ⟨k', rfl⟩ := ha
    simp only [Option.getD_some] at h1
    simp only [Instr.sliceBounds, Sem.run_bind, Sem.run_pure, Result.andThen_ok, run_sliceBound k _ h2, run_sliceBound k' _ h1, Option.getD]
 | some m =>
  obtain ⟨km, rfl⟩ := hc
  simp only [Option.getD_some] at h2 h3
  cases hi with
  | none => simp at hm
  | some h =>
   obtain ⟨k, rfl⟩ := hb
   simp only [Option.getD_some] at h1 h2
   cases lo with
   | none => cases ha; simp only [Instr.sliceBounds, Sem.run_bind, Sem.run_pure, Result.andThen_ok, run_sliceBound km _ h3, run_sliceBound k _ h2, Option.getD]
   | some l =>
    obtain ⟨k', rfl⟩ := ha
    simp only [Option.getD_some] at h1
    simp only [Instr.sliceBounds, Sem.run_bind, Sem.run_pure, Result.andThen_ok, run_sliceBound km _ h3, run_sliceBound k _ h2, run_sliceBound k' _ h1, Option.getD]
theorem cutSl_spec {C : CM} {o v i esz l h m : Nat} {L : Loc} (hL : C o v = some L) (h1 : l ≤ h) (h2 : h ≤ m) (h3 : i + m * esz ≤ L.n) (h4 : L.d + i + m * esz ≤ L.sz) :
  VR C (cutSl l h m o v i esz) (.slice (some (if m = l then ⟨L.b, L.d + i, none⟩ else (⟨L.b, L.d + i, none⟩ : Addr).add (l * esz))) (h - l) (m - l)) := by
 unfold cutSl
 split
 ·rename_i he
  have he' : l = m := Nat.eq_of_beq_eq_true he
  subst he'
  have : h = l := by omega
  subst this
  rw [if_pos rfl, Nat.sub_self]
  split
  ·exact .sl hL (by omega) (by omega) (Nat.le_refl _) (fun r hr => by cases hr; exact ⟨rfl, by omega⟩) (fun e => by cases e)
  ·exact .emp
 ·rename_i he
  have he' : ¬ m = l := fun e => by rw [e, Nat.beq_refl] at he; cases he
  rw [if_neg he', add_addr]
  have q1 := mul_split esz (Nat.le_trans h1 h2)
  have q2 := mul_split esz h1
  have q3 : h * esz ≤ m * esz := Nat.mul_le_mul_right _ h2
  have e1 : Nat.add i (Nat.mul l esz) = i + l * esz := rfl
  have e2 : Nat.sub h l = h - l := rfl
  have e3 : Nat.sub m l = m - l := rfl
  rw [e1, e2, e3]
  exact .sl hL (by omega) (by omega) (by omega) (fun r hr => by cases hr; exact ⟨rfl, by omega⟩) (fun e => by cases e)
theorem sliceSl'_spec {C : CM} {o v i len esz l h cap : Nat} {room mx : Option Nat} {r : AV} {L : Loc} (hL : C o v = some L) (h1 : i + len * esz ≤ L.n) (h2 : L.d + i + cap * esz ≤ L.sz) (h3 : len ≤ cap)
  (h4 : ∀ r, room = some r → cap = r ∧ i + r * esz ≤ L.n) (h5 : room = none → L.d + i + cap * esz = L.sz) (hs : sliceSl' l h (room.getD len) mx o v i esz room = some r) :
  l ≤ h ∧ h ≤ mx.getD cap ∧ mx.getD cap ≤ cap ∧
  VR C r (.slice (some (if mx.getD cap = l then ⟨L.b, L.d + i, none⟩ else (⟨L.b, L.d + i, none⟩ : Addr).add (l * esz))) (h - l) (mx.getD cap - l)) := by
 unfold sliceSl' at hs
 split at hs
 ·cases hs
 ·rename_i hlh
  have hlh' : l ≤ h := Nat.le_of_ble_eq_true hlh
  split at hs
  ·cases hs
  ·rename_i hhm
   have hhm' : h ≤ room.getD len := Nat.le_of_ble_eq_true hhm
   have hmost : room.getD len ≤ cap ∧ i + room.getD len * esz ≤ L.n := by
    cases room with
    | none => exact ⟨h3, h1⟩
    | some r => obtain ⟨q1, q2⟩ := h4 r rfl; exact ⟨by simp [q1], q2⟩
   split at hs
   ·rename_i m
    split at hs
    ·cases hs
    ·rename_i hm1
     have hm1' : h ≤ m := Nat.le_of_ble_eq_true hm1
     split at hs
     ·cases hs
     ·rename_i hm2
      have hm2' : m ≤ room.getD len := Nat.le_of_ble_eq_true hm2
      cases hs
      have q1 : m * esz ≤ room.getD len * esz := Nat.mul_le_mul_right _ hm2'
      have q2 : m * esz ≤ cap * esz := Nat.mul_le_mul_right _ (by omega)
      exact ⟨hlh', hm1', by simp; omega, cutSl_spec hL hlh' hm1' (by omega) (by omega)⟩
   ·split at hs
    ·rename_i rr
     cases hs
     obtain ⟨q1, q2⟩ := h4 rr rfl
     subst q1
     exact ⟨hlh', hhm', Nat.le_refl _, cutSl_spec hL hlh' hhm' q2 h2⟩
    ·have h5' := h5 rfl
     simp only [Option.getD_none] at hhm' ⊢
     have q3 : h * esz ≤ len * esz := Nat.mul_le_mul_right _ hhm'
     split at hs
     ·rename_i h0
      have h0' : l = 0 := Nat.eq_of_beq_eq_true h0
      subst h0'
      cases hs
      refine ⟨hlh', by omega, Nat.le_refl _, ?_⟩
      have e : (if cap = 0 then (⟨L.b, L.d + i, none⟩ : Addr) else (⟨L.b, L.d + i, none⟩ : Addr).add (0 * esz)) = ⟨L.b, L.d + i, none⟩ := by
       split
       ·rfl
       ·rw [add_addr]; simp
      rw [e]
      exact .sl hL (by omega) (by simpa using h2) (by omega) (fun r hr => by cases hr) (fun _ => by simpa using h5')
     ·rename_i h0
      split at hs
      ·rename_i hlh2
       have e : l = h := Nat.eq_of_beq_eq_true hlh2
       subst e
       cases hs
       refine ⟨hlh', by omega, Nat.le_refl _, ?_⟩
       rw [Nat.sub_self]; exact .emp
      ·rename_i hlh2
       have hne : ¬ l = h := fun e => by rw [e, Nat.beq_refl] at hlh2; cases hlh2
       cases hs
       refine ⟨hlh', by omega, Nat.le_refl _, ?_⟩
       rw [if_neg (by omega), add_addr]
       have q1 := mul_split esz (show l ≤ cap by omega)
       have q2 := mul_split esz hlh'
       have e1 : Nat.add i (Nat.mul l esz) = i + l * esz := rfl
       have e2 : Nat.sub h l = h - l := rfl
       rw [e1, e2]
       exact .sl hL (by omega) (by omega) (by omega) (fun r hr => by cases hr) (fun _ => by omega)
theorem isSome_map {α β : Type} (f : α → β) (x : Option α) : (x.map f).isSome = x.isSome := by cases x <;> rfl
theorem OptR.isSome {r : Option Nat} {v : Option Value} (h : OptR r v) : r.isSome = v.isSome := by
 cases r with
 | none => rw [show v = none from h]; rfl
 | some n => obtain ⟨k, rfl⟩ := h; rfl
theorem slice_sound (P : Program) (t : TypeId) (x : Operand) (lo hi mx : Option Operand) :
  Sound P (sliceF P t x lo hi mx) (fun ρ => do pure (.value (← Instr.sliceAt t (ρ x) (lo.map ρ) (hi.map ρ) (mx.map ρ)))) := by
 unfold sliceF
 split
 ·rename_i hu
  split
  ·exact stuck_sound P _
  ·intro w0 C H w E ρ hR hρ
   dsimp only
   split
   ·rename_i len n l h hx hl hh
    split
    ·rename_i h1
     split
     ·rename_i h2
      have h1' : l.getD 0 ≤ h.getD len := Nat.le_of_ble_eq_true h1
      have h2' : h.getD len ≤ len := Nat.le_of_ble_eq_true h2
      have hv := hρ _ _ hx
      have hl' := optF_spec hρ hl
      have hh' := optF_spec hρ hh
      generalize ρ x = px at hv
      cases hv with
      | @str _ _ s e1 e2 =>
       subst e1 e2
       have hb := run_sliceBounds (P := P) (w := w) false (len := s.size) (cap := s.size) (mx := none) (c := none) hl' hh' rfl (by simp) h1' (by simpa using h2') (by simp)
       refine val_same hR (x := .string (s.extract (l.getD 0) (h.getD s.size))) (.str ?_ ?_) ?_
       ·rw [Lib.extract_data]
        have : (s.data.toList.length) = s.size := rfl
        simp; rw [this] at h2'; omega
       ·rw [Lib.extract_data, packL_take, packL_drop]; rfl
       ·simp only [Instr.sliceAt, Sem.run_bind, run_und hu, Result.andThen_ok, Instr.slice, Option.map_none, Option.isSome_none]
        simp [hb]
     ·exact trivial
    ·exact trivial
   ·exact trivial
 ·rename_i elem hu
  split
  ·exact stuck_sound P _
  ·rename_i hmx
   split
   ·exact stuck_sound P _
   ·rename_i size hs
    intro w0 C H w E ρ hR hρ
    dsimp only
    split
    ·rename_i o v i len esz room l h m hx hl hh hm
     refine ret1_ok hR fun r hr => ?_
     have hv := hρ _ _ hx
     have hl' := optF_spec hρ hl
     have hh' := optF_spec hρ hh
     have hm' := optF_spec hρ hm
     generalize ρ x = px at hv
     cases hv with
     | @sl _ _ _ _ _ _ L cap hL q1 q2 q3 q4 q5 =>
      unfold sliceSl at hr
      split at hr
      ·cases hr
      ·rename_i hes
       have hes' : esz = size := Nat.eq_of_beq_eq_true hes
       subst hes'
       obtain ⟨k1, k2, k3, k4⟩ := sliceSl'_spec hL q1 q2 q3 q4 q5 hr
       have hb := run_sliceBounds (P := P) (w := w) true (len := len) (cap := cap) hl' hh' hm' (by
        rw [hm'.isSome, hh'.isSome, isSome_map, isSome_map]; intro e
        cases hi <;> simp_all) k1 k2 k3
       refine ⟨_, ?_, k4⟩
       simp only [Instr.sliceAt, Sem.run_bind, run_und hu, Result.andThen_ok, Instr.slice, hb, run_size hs, Sem.run_pure, Option.map_some]
       split <;> simp_all
    ·rename_i l h hx hl hh hm
     split
     ·rename_i h0
      have h0' : l.getD 0 + h.getD 0 = 0 := Nat.eq_of_beq_eq_true h0
      have hv := hρ _ _ hx
      have hl' := optF_spec hρ hl
      have hh' := optF_spec hρ hh
      have hm' := optF_spec hρ hm
      generalize ρ x = px at hv
      cases hv
      have hb := run_sliceBounds (P := P) (w := w) true (len := 0) (cap := 0) hl' hh' hm' (by simp) (by omega) (by simp; omega) (by simp)
      refine val_same hR .nilSl ?_
      have e1 : l.getD 0 = 0 := by omega
      have e2 : h.getD 0 = 0 := by omega
      rw [e1, e2] at hb
      simp only [Instr.sliceAt, Sem.run_bind, run_und hu, Result.andThen_ok, Instr.slice, hb, run_size hs, Sem.run_pure]
      simp
     ·exact trivial
    ·rename_i l h hx hl hh hm
     split
     ·rename_i h0
      have h0' : l.getD 0 + h.getD 0 = 0 := Nat.eq_of_beq_eq_true h0
      have hv := hρ _ _ hx
      have hl' := optF_spec hρ hl
      have hh' := optF_spec hρ hh
      have hm' := optF_spec hρ hm
      generalize ρ x = px at hv
      cases hv with
      | @emp a cap =>
       have hb := run_sliceBounds (P := P) (w := w) true (len := 0) (cap := cap) hl' hh' hm' (by simp) (by omega) (by simp; omega) (by simp)
       have e1 : l.getD 0 = 0 := by omega
       have e2 : h.getD 0 = 0 := by omega
       rw [e1, e2] at hb
       refine val_same hR (x := .slice (some (if cap = 0 then a else a.add 0)) 0 cap) .emp ?_
       simp only [Instr.sliceAt, Sem.run_bind, run_und hu, Result.andThen_ok, Instr.slice, hb, run_size hs, Sem.run_pure]
       simp
       split <;> rfl
     ·exact trivial
    ·exact trivial
 ·rename_i n elem hu
  split
  ·exact stuck_sound P _
  ·rename_i hmx
   split
   ·exact stuck_sound P _
   ·rename_i size hs
    intro w0 C H w E ρ hR hρ
    dsimp only
    split
    ·rename_i o v i l h m hx hl hh hm
     split
     ·rename_i c clen ver hg
      split
      ·rename_i hv0
       split
       ·rename_i hle
        have hle' : i + n * size ≤ clen := Nat.le_of_ble_eq_true hle
        have hv0' : v = ver := Nat.eq_of_beq_eq_true hv0
        subst hv0'
        refine ret1_ok hR fun r hr => ?_
        have hv := hρ _ _ hx
        have hl' := optF_spec hρ hl
        have hh' := optF_spec hρ hh
        have hm' := optF_spec hρ hm
        generalize ρ x = px at hv
        cases hv with
        | @ptr _ _ _ L hL =>
         unfold sliceSl at hr
         simp only [Nat.beq_refl] at hr
         have hob := hR.obj o _ (hR.fresh _ _ _ hL) hg
         obtain ⟨p1, _, p3, _⟩ := hob L hL
         obtain ⟨k1, k2, k3, k4⟩ := sliceSl'_spec (cap := n) (len := n) (room := some n) hL (by omega) (by omega) (Nat.le_refl _) (fun r hr => by cases hr; exact ⟨rfl, by omega⟩) (fun e => by cases e) hr
         have hb := run_sliceBounds (P := P) (w := w) false (len := n) (cap := n) hl' hh' hm' (by
          rw [hm'.isSome, hh'.isSome, isSome_map, isSome_map]; intro e
          cases hi <;> simp_all) k1 k2 k3
         refine ⟨_, ?_, k4⟩
         simp only [Instr.sliceAt, Instr.sureAddr, Sem.run_bind, run_und hu, Result.andThen_ok, hb, run_size hs, Sem.run_pure]
       ·exact trivial
      ·exact trivial
     ·exact trivial
    ·exact trivial
 ·exact stuck_sound P _
end Go.Sv
namespace Go.Sv
open Go.RowKit (Below)
theorem indexAddr_sound (P : Program) (t : TypeId) (x ix : Operand) : Sound P (indexAddrF P t x ix) (fun ρ => do pure (.value (← Instr.indexAt t (ρ x) (ρ ix)))) := by
 unfold indexAddrF
 split
 ·rename_i elem hu
  split
  ·exact stuck_sound P _
  ·rename_i size hs
   refine binary2_sound fun w0 C H w ρ a b hR ha hb => ?_
   split
   ·rename_i o v i len esz room k n
    split
    ·rename_i hn
     split
     ·rename_i he
      have hn' : n < len := by rw [nblt] at hn; simpa using hn
      have he' : esz = size := Nat.eq_of_beq_eq_true he
      subst he'
      generalize ρ x = px at ha
      generalize ρ ix = pi at hb
      cases hb
      cases ha with
      | sl hL =>
       refine val_same hR (.ptr (i := i + n * esz) hL) ?_
       have h1 : (0 : Int) ≤ Int.ofNat n ∧ Int.ofNat n < (len : Int) := ⟨by simp, by simp; omega⟩
       simp only [Instr.indexAt, asIntOf, Sem.run_bind, Sem.run_pure, Result.andThen_ok, run_und hu, Sem.run_ite, if_pos h1, run_size hs]
       rw [add_addr]
       rfl
     ·exact trivial
    ·exact trivial
   ·exact trivial
 ·rename_i len elem hu
  split
  ·exact stuck_sound P _
  ·rename_i size hs
   refine binary2_sound fun w0 C H w ρ a b hR ha hb => ?_
   split
   ·rename_i o v i k n
    split
    ·rename_i hn
     have hn' : n < len := by rw [nblt] at hn; simpa using hn
     generalize ρ x = px at ha
     generalize ρ ix = pi at hb
     cases hb
     cases ha with
     | ptr hL =>
      refine val_same hR (.ptr (i := i + n * size) hL) ?_
      have h1 : (0 : Int) ≤ Int.ofNat n ∧ Int.ofNat n < (len : Int) := ⟨by simp, by simp; omega⟩
      simp only [Instr.indexAt, asIntOf, Instr.sureAddr, Sem.run_bind, Sem.run_pure, Result.andThen_ok, run_und hu, Sem.run_ite, if_pos h1, run_size hs]
      rw [add_addr]
      rfl
    ·exact trivial
   ·exact trivial
 ·exact stuck_sound P _
theorem index_sound (P : Program) (t : TypeId) (x ix : Operand) : Sound P (indexF P t x ix) (fun ρ => do pure (.value (← Instr.index t (ρ x) (ρ ix)))) := by
 unfold indexF
 split
 ·rename_i hu
  refine binary2_sound fun w0 C H w ρ a b hR ha hb => ?_
  split
  ·rename_i len n k i
   split
   ·rename_i hn
    have hn' : i < len := by rw [nblt] at hn; simpa using hn
    generalize ρ x = px at ha
    generalize ρ ix = pi at hb
    cases hb
    cases ha with
    | @str _ _ s h1 h2 =>
     subst h1 h2
     have hi : i < s.size := hn'
     have hg : s.data.toList[i]? = some s[i] := by
      rw [List.getElem?_eq_getElem (by simpa using hn')]; rfl
     have hp := packL_get hg
     refine val_same hR (x := .int .u8 s[i].toNat) ?_ ?_
     ·have : Int.ofNat (Nat.mod (Nat.div (packL s.data.toList) (Nat.pow 256 i)) 256) = (s[i].toNat : Int) := by
       show ((packL s.data.toList / 256 ^ i % 256 : Nat) : Int) = _
       rw [hp]
      rw [this]; exact .int _ _
     ·simp only [Instr.index, asIntOf, Sem.run_bind, Sem.run_pure, Result.andThen_ok, run_und hu]
      have h0 : (0 : Int) ≤ Int.ofNat i := by simp
      rw [if_pos h0]
      have : s[(Int.ofNat i).toNat]? = some s[i] := by
       show s[i]? = some s[i]
       simp [hi]
      rw [this]
      rfl
   ·exact trivial
  ·exact trivial
 ·rename_i len elem hu
  split
  ·rename_i g size hg hs
   refine binary2_sound fun w0 C H w ρ a b hR ha hb => ?_
   split
   ·rename_i l k n
    split
    ·rename_i hn
     have hn' : n < len := by rw [nblt] at hn; simpa using hn
     generalize ρ x = px at ha
     generalize ρ ix = pi at hb
     cases hb
     cases ha with
     | agg ha ha1 =>
      refine ret1_ok hR fun r hr => ?_
      obtain ⟨z, q1, q2⟩ := partA_spec (w := w) hg hs hr ha ha1
      refine ⟨z, ?_, q2⟩
      have h1 : (0 : Int) ≤ Int.ofNat n ∧ Int.ofNat n < (len : Int) := ⟨by simp, by simp; omega⟩
      have q1' : (part elem _ ((Int.ofNat n).toNat * size)).run P w = .ok z w := q1
      simp only [Instr.index, asIntOf, Sem.run_bind, Sem.run_pure, Result.andThen_ok, run_und hu, Sem.run_ite, if_pos h1, run_size hs, q1']
    ·exact trivial
   ·exact trivial
  ·exact stuck_sound P _
 ·exact stuck_sound P _
theorem bytesA_spec {C : CM} : ∀ {l : List AV} {n : Nat} {vs : List Value}, convF.bytesA l = some n → VRs C l vs → ∃ bs : List UInt8, bs.length = l.length ∧ packL bs = n ∧ vs = bs.map (fun b => Value.int .u8 (b.toNat : Int))
 | [], n, _, h, .nil => by cases h; exact ⟨[], rfl, rfl, rfl⟩
 | a :: l, n, _, h, .cons e es => by
  unfold convF.bytesA at h
  split at h
  ·rename_i h'; cases h'
  ·rename_i b l' h'
   cases h'
   split at h
   ·rename_i hb
    split at h
    ·rename_i m hm
     cases h
     have hb' : b < 256 := by rw [nblt] at hb; simpa using hb
     cases e
     obtain ⟨bs, q1, q2, q3⟩ := bytesA_spec hm es
     have hu : (UInt8.ofNat b).toNat = b := by simp; omega
     exact ⟨UInt8.ofNat b :: bs, by simp [q1], by rw [packL, hu, q2], by rw [List.map_cons, hu, q3]; rfl⟩
    ·cases h
   ·cases h
  ·cases h
theorem strOf_bytes (bs : List UInt8) : (strOfNums (bs.map fun b => (b.toNat : Int))).data.toList = bs := by
 simp [strOfNums, Function.comp_def]
theorem bytesWorld_eq (w : World) (e : TypeId) (s : ByteArray) : Lib.bytesWorld w e s = w.drew.alloc (.cells (Lib.bytesCells w e s) e ((Lib.bytesCells w e s).size, (Lib.bytesCells w e s).size + 1)) := by
 have hh : (Lib.bytesWorld w e s).heap = (w.drew.alloc (.cells (Lib.bytesCells w e s) e ((Lib.bytesCells w e s).size, (Lib.bytesCells w e s).size + 1))).heap := by
  apply Array.ext_getElem?
  intro i
  rcases Nat.lt_trichotomy i w.heap.size with h | h | h
  ·rw [Lib.bytesWorld_at_old w e s i h, heap_alloc_lt w.drew _ (show i < w.drew.heap.size from h)]; rfl
  ·subst h; rw [Lib.bytesWorld_at_new]; exact (heap_alloc_new w.drew _).symm
  ·rw [Array.getElem?_eq_none (by rw [Lib.bytesWorld_size]; omega), Array.getElem?_eq_none (by rw [World.size_alloc]; show w.heap.size + 1 ≤ i; omega)]
 show ({ heap := (Lib.bytesWorld w e s).heap, tape := w.tape, drawn := w.drawn + 1, os := w.os, output := w.output } : World) = _
 rw [hh]
 rfl
theorem conv_sound (P : Program) (src dst : TypeId) (x : Operand) : Sound P (convF P src dst x) (fun ρ => do pure (.value (← convert src dst (ρ x)))) := by
 unfold convF
 split
 ·rename_i s k hs hd
  refine unary1_sound fun w0 C H w ρ a hR ha => ?_
  split
  ·rename_i k' n
   generalize ρ x = px at ha
   cases ha
   refine val_same hR (x := .int k (k.wrap n)) (by rw [wrapA_spec]; exact .int _ _) ?_
   simp only [convert, Sem.run_bind, run_und hs, run_und hd, Result.andThen_ok, Conv.intToInt, Sem.run_pure]
  ·exact trivial
 ·rename_i e hs hd
  split
  ·rename_i he
   refine unary1_sound fun w0 C H w ρ a hR ha => ?_
   split
   ·generalize ρ x = px at ha
    cases ha
    refine val_same hR (x := .string .empty) (.str rfl rfl) ?_
    simp only [Sem.run_bind, run_convert_bytes_nil w src e hs he 0 0 dst hd, Result.andThen_ok, Sem.run_pure]
   ·rename_i o v i len room
    split
    ·rename_i l hl
     split
     ·rename_i n hn
      generalize ρ x = px at ha
      cases ha with
      | @sl _ _ _ _ _ _ L cap hL =>
       obtain ⟨vs, h1, h2, h3, h4, h5, h6⟩ := hR.read P hl hL
       obtain ⟨bs, q1, q2, q3⟩ := bytesA_spec hn h2
       have hbl : bs.length = len := by omega
       refine val_same hR (x := .string (strOfNums (bs.map fun b => (b.toNat : Int)))) (.str (by rw [strOf_bytes, hbl]) (by rw [strOf_bytes, q2])) ?_
       have hr := run_convert_bytes_arg (P := P) w src e hs he L.b (L.d + i) len cap (bs.map fun b => (b.toNat : Int)) (by simp [hbl]) (fun j hj => by
        rw [Nat.add_assoc, h6 j hj, q3]
        simp [List.getElem?_map, List.getElem?_eq_getElem (show j < bs.length by omega), List.getD]) dst hd
       simp only [Sem.run_bind, hr, Result.andThen_ok, Sem.run_pure]
     ·exact trivial
    ·exact trivial
   ·exact trivial
  ·exact stuck_sound P _
 ·rename_i s hne hs hd
  refine unary1_sound fun w0 C H w ρ a hR ha => ?_
  split
  ·rename_i l n
   have ha0 := ha
   generalize hx : ρ x = px at ha
   cases ha
   refine val_same hR ha0 ?_
   rw [hx]
   cases s <;> simp_all [convert, run_und hs, run_und hd]
  ·exact trivial
 ·rename_i s e hs hd
  split
  ·rename_i he hz
   refine unary1_sound fun w0 C H w ρ a hR ha => ?_
   split
   ·rename_i len n
    split
    ·rename_i o H' hn
     generalize ρ x = px at ha
     cases ha with
     | @str _ _ s' h1 h2 =>
      subst h1 h2
      rw [unpack_pack] at hn
      have hlen : s'.size ≤ grownCap w s'.size 0 e := grownCap_ge w s'.size 0 e
      have hcells : VRs C ((s'.data.toList.map (·.toNat)).map fun (b : Nat) => AV.int .u8 (Int.ofNat b)) (s'.data.toList.map fun b => Value.int .u8 (b.toNat : Int)) := by
       generalize s'.data.toList = q
       induction q with
       | nil => exact .nil
       | cons b q ih => exact .cons (.int _ _) ih
      have hsz : (Lib.bytesCells w e s').size = grownCap w s'.size 0 e := by simp [Lib.bytesCells]; omega
      have hll : ((s'.data.toList.map (·.toNat)).map fun (b : Nat) => AV.int .u8 (Int.ofNat b)).length = s'.size := by simp
      obtain ⟨C', hle, hR', hC'⟩ := hR.drew.newRow hn e ((Lib.bytesCells w e s').size, (Lib.bytesCells w e s').size + 1) (vs := Lib.bytesCells w e s') (by rw [hll, hsz]; exact hlen)
       (by
        rw [hll]
        have : (Lib.bytesCells w e s').toList.take s'.size = s'.data.toList.map fun b => Value.int .u8 (b.toNat : Int) := by
         simp only [Lib.bytesCells, Array.toList_append, Array.toList_map]
         rw [List.take_append_of_le_length (by simp), List.take_of_length_le (by simp)]
        rw [this]; exact hcells)
       (by intro a ha; simp only [List.mem_map] at ha; obtain ⟨b, _, rfl⟩ := ha; rfl) (fun i hi => by dsimp; omega)
      refine ⟨C', _, .slice (some ⟨w.heap.size, 0, none⟩) s'.size (grownCap w s'.size 0 e), hle, hR', ?_, .inl ?_⟩
      ·have := VR.sl (i := 0) (len := s'.size) (esz := 1) (room := none) (cap := grownCap w s'.size 0 e) hC' (by rw [hll]; dsimp only; omega) (by rw [hsz]; dsimp only; omega) hlen (fun r hr => by cases hr) (fun _ => by rw [hsz]; simp)
       simpa using this
      ·simp only [Sem.run_bind, Lib.run_convert_string_bytes w src dst e s' hs hd he, Result.andThen_ok, Sem.run_pure, bytesWorld_eq]
    ·exact trivial
   ·exact trivial
  ·exact stuck_sound P _
 ·exact stuck_sound P _
theorem extract_sound (P : Program) (x : Operand) (i : Nat) : Sound P (extractF x i) (fun ρ => do pure (.value (← Instr.extract (ρ x) i))) := by
 unfold extractF
 refine unary1_sound fun w0 C H w ρ a hR ha => ?_
 split
 ·generalize ρ x = px at ha
  cases ha with
  | @tup _ vs ha =>
   refine ret1_ok hR fun r hr => ?_
   obtain ⟨v, q1, q2⟩ := ha.get hr
   have q1' : vs[i]? = some v := by simpa using q1
   exact ⟨v, by simp [Instr.extract, q1'], q2⟩
 ·exact trivial
theorem assert_sound (P : Program) (x : Operand) (xt asserted : TypeId) (ok : Bool) : Sound P (assertF P x asserted ok) (fun ρ => do pure (.value (← Instr.typeAssert (ρ x) xt asserted ok))) := by
 unfold assertF
 split
 ·exact stuck_sound P _
 ·rename_i d hne hu
  split
  ·exact stuck_sound P _
  ·rename_i z hz
   refine unary1_sound fun w0 C H w ρ a hR ha => ?_
   obtain ⟨zv, hz1, hz2⟩ := run_zeroV (w := w) hz
   have hzr := absV_spec (C := C) hz2
   split
   ·generalize ρ x = px at ha
    cases ha
    cases ok with
    | false => exact trivial
    | true =>
     refine val_same hR (x := .tuple #[zv, .bool false]) (.tup (.cons hzr (.cons (.bool _) .nil))) ?_
     simp only [Instr.typeAssert, Sem.run_bind, run_und hu, Result.andThen_ok]
     cases d <;> first | (simp [hz1]; done) | exact absurd hu (hne _)
   ·rename_i t v
    generalize ρ x = px at ha
    cases ha with
    | @iface _ _ u ha =>
     split
     ·rename_i he
      have he' : t = asserted := Nat.eq_of_beq_eq_true he
      subst he'
      cases ok with
      | false =>
       refine val_same hR (x := u) ha ?_
       simp only [Instr.typeAssert, Sem.run_bind, run_und hu, Result.andThen_ok]
       cases d <;> first | (simp; done) | exact absurd hu (hne _)
      | true =>
       refine val_same hR (x := .tuple #[u, .bool true]) (.tup (.cons ha (.cons (.bool _) .nil))) ?_
       simp only [Instr.typeAssert, Sem.run_bind, run_und hu, Result.andThen_ok]
       cases d <;> first | (simp; done) | exact absurd hu (hne _)
     ·rename_i he
      have he' : ¬ t = asserted := fun e => by rw [e, Nat.beq_refl] at he; cases he
      cases ok with
      | false => exact trivial
      | true =>
       refine val_same hR (x := .tuple #[zv, .bool false]) (.tup (.cons hzr (.cons (.bool _) .nil))) ?_
       simp only [Instr.typeAssert, Sem.run_bind, run_und hu, Result.andThen_ok]
       cases d <;> first | (simp [hz1, he']; done) | exact absurd hu (hne _)
   ·exact trivial
 ·exact stuck_sound P _
end Go.Sv
namespace Go.Sv
open Go.RowKit (Below)
theorem keyT_spec {P : Program} {t : TypeId} {d : TypeDesc} (h : keyT P t = some d) : P.underlying t = some d ∧ (d = .bool ∨ (∃ k, d = .int k) ∨ d = .string) := by
 unfold keyT at h
 split at h
 ·rename_i hu; cases h; exact ⟨hu, .inl rfl⟩
 ·rename_i k hu; cases h; exact ⟨hu, .inr (.inl ⟨k, rfl⟩)⟩
 ·rename_i hu; cases h; exact ⟨hu, .inr (.inr rfl)⟩
 ·cases h
theorem run_checkKey {P : Program} {w : World} {t : TypeId} {d : TypeDesc} (h : keyT P t = some d) (e : Bool) (v : Value) : (Instr.checkKey e 10000 t v).run P w = .ok () w := by
 obtain ⟨hu, hd⟩ := keyT_spec h
 show (Instr.checkKey e (9999 + 1) t v).run P w = _
 unfold Instr.checkKey
 simp only [Sem.run_bind, run_und hu, Result.andThen_ok]
 rcases hd with rfl | ⟨k, rfl⟩ | rfl <;> rfl
theorem keyEq_now {C : CM} {d : TypeDesc} {a b : AV} {r : Bool} (h : keyEq d a b = some r) {u v : Value} (hu : VR C a u) (hv : VR C b v) :
  Instr.sameNow d u v = some r ∧ (r = true → Instr.sameBits 10000 v u = true) := by
 unfold keyEq at h
 split at h
 ·split at h
  ·rename_i hk
   have := kindEq_spec hk
   subst this
   cases h; cases hu; cases hv
   rename_i _ kk x y _
   refine ⟨by simp [Instr.sameNow, eqI_spec], fun e => ?_⟩
   rw [eqI_spec] at e
   have : x = y := by simpa using e
   subst this
   simp [Instr.sameBits]
  ·cases h
 ·cases h
  cases hu with
  | @str _ _ s h1 h2 =>
   cases hv with
   | @str _ _ s' h3 h4 =>
    subst h1 h2 h3 h4
    rw [← strEq_spec, ← beq_toListBytes]
    refine ⟨by simp [Instr.sameNow], fun e => ?_⟩
    have : s = s' := by
     have e' : s.data.toList = s'.data.toList := by rw [beq_toListBytes] at e; rw [← ByteArray.toList_eq, ← ByteArray.toList_eq]; simpa using e
     exact ByteArray.ext (Array.toList_inj.1 e')
    subst this
    simp only [Instr.sameBits]
    rw [beq_toListBytes]; simp
 ·cases h; cases hu; cases hv
  rename_i x y
  refine ⟨by simp [Instr.sameNow], fun e => ?_⟩
  have : x = y := by simpa using e
  subst this
  simp [Instr.sameBits]
 ·cases h
theorem findA_spec {C : CM} {d : TypeDesc} {k : AV} {u : Value} (hu : VR C k u) : ∀ {es : List (AV × AV × Nat)} {ces : List MapEntry} {r : Option AV} (i : Nat), findA d k es = some r → MR C es ces →
  match r with
  | none => Instr.findNow d u ces i = some none
  | some a => ∃ j v, Instr.findNow d u ces i = some (some (j, v)) ∧ VR C a v
 | [], [], r, i, h, .nil => by cases h; rfl
 | (k', v', b) :: l, e :: _, r, i, h, .cons hk hv hb hm => by
  unfold findA at h
  split at h
  ·rename_i hq
   cases h
   exact ⟨i, e.val, by simp [Instr.findNow, (keyEq_now hq hu hk).1], hv⟩
  ·rename_i hq
   have := findA_spec hu (i + 1) h hm
   cases r with
   | none => simpa [Instr.findNow, (keyEq_now hq hu hk).1] using this
   | some a =>
    obtain ⟨j, v, q1, q2⟩ := this
    exact ⟨j, v, by simpa [Instr.findNow, (keyEq_now hq hu hk).1] using q1, q2⟩
  ·cases h
theorem run_findKey {P : Program} {w : World} {t : TypeId} {d : TypeDesc} (hu : P.underlying t = some d) {k : Value} {es : List MapEntry} {r : Option (Nat × Value)} (h : Instr.findNow d k es 0 = some r) :
  (Instr.findKey t k es).run P w = .ok r w := by
 simp [Instr.findKey, run_und hu, h]
theorem lookup_sound (P : Program) (t : TypeId) (x ix : Operand) (ok : Bool) : Sound P (lookupF P t x ix ok) (fun ρ => do pure (.value (← Instr.lookup t (ρ x) (ρ ix) ok))) := by
 unfold lookupF
 split
 ·rename_i key elem hu
  split
  ·rename_i d z hd hz
   refine binary2_sound fun w0 C H w ρ a b hR ha hb => ?_
   split
   ·exact trivial
   ·rename_i es hes
    obtain ⟨hud, _⟩ := keyT_spec hd
    obtain ⟨zv, hz1, hz2⟩ := run_zeroV (w := w) hz
    have hzr := absV_spec (C := C) hz2
    have hent : ∃ ces : Array MapEntry, MR C es ces.toList ∧ ((ρ x = .map none ∧ ces = #[]) ∨ ∃ b ck, ρ x = .map (some b) ∧ w.heap[b]? = some (.map ces ck)) := by
     unfold mapOf at hes
     split at hes
     ·cases hes
      generalize ρ x = px at ha
      cases ha
      exact ⟨#[], .nil, .inl ⟨rfl, rfl⟩⟩
     ·rename_i o
      split at hes
      ·rename_i es' ck hg
       cases hes
       generalize ρ x = px at ha
       cases ha with
       | map hL =>
        obtain ⟨_, ces, q1, q2⟩ := hR.obj o _ (hR.fresh _ _ _ hL) hg _ hL
        exact ⟨ces, q2, .inr ⟨_, _, rfl, q1⟩⟩
      ·cases hes
     ·cases hes
    obtain ⟨ces, hm, hget⟩ := hent
    split
    ·rename_i v hf
     obtain ⟨j, u, q1, q2⟩ := findA_spec hb 0 hf hm
     have hrun : (Instr.lookup t (ρ x) (ρ ix) ok).run P w = .ok (if ok then .tuple #[u, .bool true] else u) w := by
      unfold Instr.lookup
      rcases hget with ⟨hx, rfl⟩ | ⟨r, ck, hx, hh⟩
      ·simp only [Sem.run_bind, run_und hu, Result.andThen_ok, hx, run_checkKey hd, run_findKey hud q1, Sem.run_pure]
      ·have hg : (getObj r).run P w = .ok (.map ces ck) w := by simp [getObj, Sem.run, hh]
       simp only [Sem.run_bind, run_und hu, Result.andThen_ok, hx, hg, run_checkKey hd, run_findKey hud q1, Sem.run_pure]
     refine val_same hR (x := if ok then .tuple #[u, .bool true] else u) ?_ (by simp only [Sem.run_bind, hrun, Result.andThen_ok, Sem.run_pure])
     cases ok with
     | true => exact .tup (.cons q2 (.cons (.bool _) .nil))
     | false => exact q2
    ·rename_i hf
     have q1 := findA_spec hb 0 hf hm
     have hrun : (Instr.lookup t (ρ x) (ρ ix) ok).run P w = .ok (if ok then .tuple #[zv, .bool false] else zv) w := by
      unfold Instr.lookup
      rcases hget with ⟨hx, rfl⟩ | ⟨r, ck, hx, hh⟩
      ·simp only [Sem.run_bind, run_und hu, Result.andThen_ok, hx, run_checkKey hd, run_findKey hud q1, Sem.run_pure, hz1]
      ·have hg : (getObj r).run P w = .ok (.map ces ck) w := by simp [getObj, Sem.run, hh]
       simp only [Sem.run_bind, run_und hu, Result.andThen_ok, hx, hg, run_checkKey hd, run_findKey hud q1, Sem.run_pure, hz1]
     refine val_same hR (x := if ok then .tuple #[zv, .bool false] else zv) ?_ (by simp only [Sem.run_bind, hrun, Result.andThen_ok, Sem.run_pure])
     cases ok with
     | true => exact .tup (.cons hzr (.cons (.bool _) .nil))
     | false => exact hzr
    ·exact trivial
  ·exact stuck_sound P _
 ·exact stuck_sound P _
theorem putObj_heap_ne (w : World) {r k : Nat} (x : Obj) (h : k ≠ r) : ({ w with heap := w.heap.setIfInBounds r x } : World).heap[k]? = w.heap[k]? := by
 show (w.heap.setIfInBounds r x)[k]? = _
 rw [Array.getElem?_setIfInBounds_ne (by omega)]
theorem putObj_heap_same (w : World) {r : Nat} (x : Obj) (h : r < w.heap.size) : ({ w with heap := w.heap.setIfInBounds r x } : World).heap[r]? = some x := by
 show (w.heap.setIfInBounds r x)[r]? = _
 simp [h]
theorem Rel.putObj {w0 : World} {C : CM} {H : Heap} {w : World} (h : Rel w0 C H w) {o v : Nat} {L : Loc} (hL : C o v = some L) (hB : w0.heap.size ≤ L.b) (ob : AObj) (x : Obj)
  (hob : ObjR w0.heap.size C { w with heap := w.heap.setIfInBounds L.b x } o ob) (htop : ∀ c len ver ro, ob ≠ .cells c len ver ro) : Rel w0 C (H.put o ob) { w with heap := w.heap.setIfInBounds L.b x } := by
 refine h.put (h.fresh _ _ _ hL) ob (h.low.trans ⟨rfl, rfl, rfl, by simp, fun k hk => putObj_heap_ne w x (by omega)⟩) (by simp) ?_ hob (fun c len ver ro e => absurd e (htop c len ver ro))
 intro o' v' L' hne hL'
 refine putObj_heap_ne w x (fun e => hne ?_)
 exact (h.excl _ _ _ _ _ _ hL hL' e.symm hB).symm
theorem MR.length {C : CM} : ∀ {es : List (AV × AV × Nat)} {ces : List MapEntry}, MR C es ces → es.length = ces.length
 | _, _, .nil => rfl
 | _, _, .cons _ _ _ h => by simp [MR.length h]
theorem setMapA_spec {C : CM} {d : TypeDesc} {k v : AV} {u x : Value} (hu : VR C k u) (hx : VR C v x) {ck : Nat} : ∀ {es es' : List (AV × AV × Nat)} {ces : List MapEntry} {n : Bool} (i : Nat), setMapA d k v ck es = some (es', n) → MR C es ces →
  match n with
  | true => Instr.findNow d u ces i = some none ∧ MR C es' (ces ++ [{ key := u, val := x, born := ck }])
  | false => ∃ j e y, Instr.findNow d u ces i = some (some (j + i, y)) ∧ ces[j]? = some e ∧ Instr.sameBits 10000 e.key u = true ∧ MR C es' (ces.modify j fun e => { e with key := u, val := x })
 | [], es', [], n, i, h, .nil => by
  cases h
  exact ⟨rfl, .cons hu hx rfl .nil⟩
 | (k', v', b) :: l, es', e :: r, n, i, h, .cons hk hv hb hm => by
  unfold setMapA at h
  split at h
  ·rename_i hq
   cases h
   obtain ⟨q1, q2⟩ := keyEq_now hq hu hk
   exact ⟨0, e, e.val, by simp [Instr.findNow, q1], rfl, q2 rfl, by simpa using MR.cons (e := { e with key := u, val := x }) hu hx hb hm⟩
  ·rename_i hq
   obtain ⟨q1, _⟩ := keyEq_now hq hu hk
   split at h
   ·rename_i r' n' hs
    cases h
    have := setMapA_spec hu hx (i + 1) hs hm
    cases n with
    | true => exact ⟨by simpa [Instr.findNow, q1] using this.1, .cons hk hv hb this.2⟩
    | false =>
     obtain ⟨j, e', y, p1, p2, p3, p4⟩ := this
     refine ⟨j + 1, e', y, ?_, by simpa using p2, p3, by simpa using MR.cons hk hv hb p4⟩
     rw [show j + 1 + i = j + (i + 1) from by omega]
     simpa [Instr.findNow, q1] using p1
   ·cases h
  ·cases h
theorem mapUpdate_sound (P : Program) (t : TypeId) (m k x : Operand) : Sound P (mapUpdateF P t m k x) (fun ρ => do Instr.mapUpdate t (ρ m) (ρ k) (ρ x); pure .skip) := by
 unfold mapUpdateF
 split
 ·rename_i key elem hu
  split
  ·rename_i d hd
   obtain ⟨hud, _⟩ := keyT_spec hd
   intro w0 C H w E ρ hR hρ
   dsimp only
   split
   ·rename_i o ka va hm hk hx
    have hm' := hρ _ _ hm
    have hk' := hρ _ _ hk
    have hx' := hρ _ _ hx
    split
    ·rename_i es ck hg
     generalize hmv : ρ m = pm at hm'
     cases hm' with
     | map hL =>
      rename_i L
      obtain ⟨hB, ces, q1, q2⟩ := hR.obj o _ (hR.fresh _ _ _ hL) hg _ hL
      have hlt := hR.lt _ _ _ hL
      have hget : (getObj L.b).run P w = .ok (.map ces ck) w := by simp [getObj, Sem.run, q1]
      have hset : ∀ y, (setObj L.b y).run P w = .ok () { w with heap := w.heap.setIfInBounds L.b y } := by intro y; simp [setObj, Sem.run, q1]
      split
      ·rename_i es' hs
       obtain ⟨p1, p2⟩ := setMapA_spec hk' hx' 0 hs q2
       refine ⟨C, { w with heap := w.heap.setIfInBounds L.b (.map (ces.push { key := ρ k, val := ρ x, born := ck }) (ck + 1)) }, undef, CM.le_refl C, hR.putObj hL hB _ _ ?_ (fun _ _ _ _ e => by cases e), .tup .nil, .inr ⟨?_, rfl⟩⟩
       ·intro L' hL'
        rw [hL] at hL'; cases hL'
        exact ⟨hB, _, putObj_heap_same w _ hlt, by rw [Array.toList_push]; exact p2⟩
       ·simp only [Instr.mapUpdate, Sem.run_bind, run_und hu, Result.andThen_ok, hget, run_checkKey hd, run_findKey hud p1, hset, Sem.run_pure]
      ·rename_i es' hs
       obtain ⟨j, e, y, p1, p2, p3, p4⟩ := setMapA_spec hk' hx' 0 hs q2
       have p2' : ces[j]? = some e := by simpa using p2
       refine ⟨C, { w with heap := w.heap.setIfInBounds L.b (.map (ces.modify j fun e => { e with key := ρ k, val := ρ x }) ck) }, undef, CM.le_refl C, hR.putObj hL hB _ _ ?_ (fun _ _ _ _ e => by cases e), .tup .nil, .inr ⟨?_, rfl⟩⟩
       ·intro L' hL'
        rw [hL] at hL'; cases hL'
        exact ⟨hB, _, putObj_heap_same w _ hlt, by rw [Array.toList_modify]; exact p4⟩
       ·have hkeep : (Instr.keyThatStays e.key (ρ k)).run P w = .ok (ρ k) w := by simp [Instr.keyThatStays, p3]
        simp only [Instr.mapUpdate, Sem.run_bind, run_und hu, Result.andThen_ok, hget, run_checkKey hd, run_findKey hud p1, Nat.add_zero, p2', Option.map_some, Option.getD_some, hkeep, hset, Sem.run_pure]
      ·exact trivial
    ·exact trivial
   ·exact trivial
  ·exact stuck_sound P _
 ·exact stuck_sound P _
theorem range_sound (P : Program) (t : TypeId) (x : Operand) : Sound P (rangeF P t x) (fun ρ => do pure (.value (← Instr.range t (ρ x)))) := by
 unfold rangeF
 split
 ·rename_i hu
  refine unary1_sound fun w0 C H w ρ a hR ha => ?_
  split
  ·rename_i len n
   generalize ρ x = px at ha
   cases ha with
   | @str _ _ s h1 h2 =>
    obtain ⟨q1, q2⟩ := hR.push (.iter len n 0) (.stringIter s 0) 0 0 (fun L hL => by
     rw [CM.ext_same] at hL; cases hL
     exact ⟨hR.low.size, rfl, s, heap_alloc_new _ _, h1, h2⟩)
    refine ⟨_, _, .pointer (some ⟨w.heap.size, 0, none⟩), q2, q1, by simpa using VR.ptr (i := 0) (CM.ext_same C H.next 0 ⟨w.heap.size, 0, 0, 0⟩), .inl ?_⟩
    simp only [Instr.range, Sem.run_bind, run_und hu, Sem.run_pure, Result.andThen_ok, run_newObj]
    rfl
  ·exact trivial
 ·exact stuck_sound P _
theorem next_sound (P : Program) (x : Operand) (isString : Bool) (ty : TypeId) : Sound P (nextF x isString) (fun ρ => do pure (.value (← Instr.next (ρ x) isString ty))) := by
 unfold nextF
 split
 ·rename_i hs
  subst hs
  refine unary1_sound fun w0 C H w ρ a hR ha => ?_
  split
  ·rename_i o
   split
   ·rename_i len n pos hg
    generalize ρ x = px at ha
    cases ha with
    | @ptr _ _ _ L hL =>
     obtain ⟨hB, hd0, s, q1, q2, q3⟩ := hR.obj o _ (hR.fresh _ _ _ hL) hg _ hL
     have hlt := hR.lt _ _ _ hL
     have hget : (getObj L.b).run P w = .ok (.stringIter s pos) w := by simp [getObj, Sem.run, q1]
     have hset : ∀ y, (setObj L.b y).run P w = .ok () { w with heap := w.heap.setIfInBounds L.b y } := by intro y; simp [setObj, Sem.run, q1]
     have haddr : (⟨L.b, L.d + 0, none⟩ : Addr) = ⟨L.b, 0, none⟩ := by rw [hd0]
     rw [haddr]
     split
     ·rename_i hp
      have hp' : pos < len := by rw [nblt] at hp; simpa using hp
      have hp'' : pos < s.size := by have : s.data.toList.length = s.size := rfl; omega
      split
      ·rename_i hc
       have hgl : s.data.toList[pos]? = some s[pos] := by
        rw [List.getElem?_eq_getElem (by rw [q2]; exact hp')]; rfl
       have hpk := packL_get hgl
       rw [q3] at hpk
       have hcv : Nat.mod (Nat.div n (Nat.pow 256 pos)) 256 = s[pos].toNat := hpk
       rw [hcv] at hc ⊢
       have hc' : s[pos].toNat < 128 := by rw [nblt] at hc; simpa using hc
       have hdec := decode_ascii s pos hp'' hc'
       refine ⟨C, { w with heap := w.heap.setIfInBounds L.b (.stringIter s (pos + 1)) }, .tuple #[.bool true, goInt pos, .int .i32 (s[pos].toNat : Int)], CM.le_refl C,
        hR.putObj hL hB _ _ ?_ (fun _ _ _ _ e => by cases e), .tup (.cons (.bool _) (.cons (.int _ _) (.cons (.int _ _) .nil))), .inl ?_⟩
       ·intro L' hL'
        rw [hL] at hL'; cases hL'
        exact ⟨hB, hd0, s, putObj_heap_same w _ hlt, q2, q3⟩
       ·simp only [Instr.next, Sem.run_bind, hget, Result.andThen_ok, if_pos hp'', hdec, hset, Sem.run_pure]
      ·exact trivial
     ·rename_i hp
      have hp' : ¬ pos < len := by rw [nblt] at hp; simpa using hp
      have hp'' : ¬ pos < s.size := by have : s.data.toList.length = s.size := rfl; omega
      refine val_same hR (x := .tuple #[.bool false]) (.tup (.cons (.bool _) .nil)) ?_
      simp only [Instr.next, Sem.run_bind, hget, Result.andThen_ok, if_neg hp'', Sem.run_pure]
   ·exact trivial
  ·exact trivial
 ·exact stuck_sound P _
end Go.Sv
namespace Go.Sv
open Go.RowKit (Below)
theorem Rel.bump {w0 : World} {C : CM} {H : Heap} {w w' : World} (h : Rel w0 C H w) {o ver len : Nat} {c : Tr AV} (ho : o < H.next) (hin : ∃ v L, C o v = some L) (hg : H.get o = some (.cells c len ver false)) (L' : Loc) (c' : Tr AV) (len' : Nat)
  (hlow : Below w0.heap.size w0 w') (hsz : w.heap.size ≤ w'.heap.size) (hlt : L'.b < w'.heap.size) (hex : ∀ o' v L, C o' v = some L → L.b = L'.b → o' = o)
  (hfr : ∀ o' v L, o' ≠ o → C o' v = some L → w'.heap[L.b]? = w.heap[L.b]?) (hob : ObjR w0.heap.size (C.ext o (ver + 1) L') w' o (.cells c' len' (ver + 1) false)) :
  Rel w0 (C.ext o (ver + 1) L') (H.put o (.cells c' len' (ver + 1) false)) w' ∧ C.le (C.ext o (ver + 1) L') := by
 have hnone : C o (ver + 1) = none := by
  cases e : C o (ver + 1) with
  | none => rfl
  | some L => have := h.top _ _ _ _ _ ho hg _ _ e; omega
 have hle : C.le (C.ext o (ver + 1) L') := CM.le_ext _ hnone (.inl hin)
 refine ⟨⟨by show max C.nx (o + 1) = H.next; rw [h.nx]; exact Nat.max_eq_left ho, hlow, ?_, ?_, ?_, ?_, ?_⟩, hle⟩
 ·intro o' v L hL
  by_cases e : o' = o ∧ v = ver + 1
  ·rw [e.1]; exact ho
  ·rw [CM.ext_ne _ _ e] at hL; exact h.fresh _ _ _ hL
 ·intro o' v L hL
  by_cases e : o' = o ∧ v = ver + 1
  ·obtain ⟨rfl, rfl⟩ := e; rw [CM.ext_same] at hL; cases hL; exact hlt
  ·rw [CM.ext_ne _ _ e] at hL; exact Nat.lt_of_lt_of_le (h.lt _ _ _ hL) hsz
 ·intro o1 v1 L1 o2 v2 L2 h1 h2 hb hB
  by_cases e1 : o1 = o ∧ v1 = ver + 1 <;> by_cases e2 : o2 = o ∧ v2 = ver + 1
  ·rw [e1.1, e2.1]
  ·obtain ⟨rfl, rfl⟩ := e1
   rw [CM.ext_same] at h1; cases h1
   rw [CM.ext_ne _ _ e2] at h2
   exact (hex _ _ _ h2 hb.symm).symm
  ·obtain ⟨rfl, rfl⟩ := e2
   rw [CM.ext_same] at h2; cases h2
   rw [CM.ext_ne _ _ e1] at h1
   exact hex _ _ _ h1 hb
  ·rw [CM.ext_ne _ _ e1] at h1; rw [CM.ext_ne _ _ e2] at h2; exact h.excl _ _ _ _ _ _ h1 h2 hb hB
 ·intro o' ob ho' hg'
  by_cases e : o' = o
  ·subst e; rw [Heap.get_put_same] at hg'; cases hg'; exact hob
  ·have ho'' : o' < H.next := ho'
   rw [Heap.get_put_ne H _ e] at hg'
   exact (h.obj _ _ ho' hg').frame hle (fun v L hL => by rwa [CM.ext_ne _ _ (fun q => e q.1)] at hL) (fun v L hL => hfr _ _ _ e hL)
 ·intro o' c1 len1 ver1 ro1 ho' hg' v L hL
  by_cases e : o' = o
  ·subst e
   rw [Heap.get_put_same] at hg'
   cases hg'
   by_cases e2 : v = ver + 1
   ·omega
   ·rw [CM.ext_ne _ _ (by omega)] at hL
    have := h.top _ _ _ _ _ ho hg _ _ hL; omega
  ·have ho'' : o' < H.next := ho'
   rw [Heap.get_put_ne H _ e] at hg'
   rw [CM.ext_ne _ _ (fun q => e q.1)] at hL
   exact h.top _ _ _ _ _ ho' hg' _ _ hL
structure AppX (P : Program) (w : World) (elem : TypeId) (size : Nat) (xt : TypeId) (x : Value) (n : Nat) (news : Array Value) : Prop where
 und : ∃ d, P.underlying xt = some d ∧ ((d = .string ∨ ∃ e, d = .slice e) ∧ (Builtin.lenOf x).run P w = .ok n w ∧ (∀ w', w'.heap = w.heap → (Builtin.firstCells size n x).run P w' = .ok news w')
  ∨ (∃ k, d = .int k) ∧ x = .int .i64 (Int.ofNat n) ∧ n ≤ 1048576 ∧ 0 < size ∧ ∃ zv, (∀ w', (zeroValue elem).run P w' = .ok zv w') ∧ (∃ i, P.info? elem = some i ∧ i.bytes ≤ 65536) ∧ news = Builtin.zeroCells zv.cells n ∧ zv.cells.size = size)
theorem zeroCells_nil (z : Array Value) : Builtin.zeroCells z 0 = #[] := by simp [Builtin.zeroCells]
theorem run_append_room' {P : Program} {w w' : World} {st xt elem ty : TypeId} {size n len cap : Nat} {base : Option Addr} {x : Value} {news : Array Value} (hu : P.underlying st = some (.slice elem)) (hs : sizeT P elem = some size)
  (hx : AppX P w elem size xt x n news) (hle : len + n ≤ cap)
  (hst : match base with
   | none => w' = w
   | some a => (storeCells (a.add (len * size)) news.toList).run P w = .ok () w') :
  (Builtin.append_ #[st, xt] ty #[.slice base len cap, x]).run P w = .ok (.slice base (len + n) cap) w' := by
 obtain ⟨d, hd, hcase⟩ := hx.und
 unfold Builtin.append_
 rcases hcase with ⟨hni, hlen, hf⟩ | ⟨⟨k, rfl⟩, rfl, hn, hpos, zv, hz, ⟨i, hi, hby⟩, rfl, hzs⟩
 ·rcases hni with rfl | ⟨e, rfl⟩
  all_goals
   simp only [List.getElem?_toArray, List.getElem?_cons_zero, List.getElem?_cons_succ, Sem.run_bind, run_und hu, run_und hd, run_size hs, Result.andThen_ok, Sem.run_pure, Bool.false_eq_true, if_false, hlen, Sem.run_ite, if_pos hle, Bool.not_false, if_true, hf w rfl]
   cases base with
   | none => subst hst; rfl
   | some a => simp only [Sem.run_bind, hst, Result.andThen_ok, Sem.run_pure]
 ·have e1 : IntKind.i64.wrap (Int.ofNat n) = Int.ofNat n := by simp only [IntKind.wrap, IntKind.bits, IntKind.signed]; simp; omega
  have e2 : ¬ (Int.ofNat n < 0) := by simp
  have e3 : ¬ (Int.ofNat n * (i.bytes : Int) > 2 ^ 48) := by
   have : (Int.ofNat n * (i.bytes : Int)) = ((n * i.bytes : Nat) : Int) := by simp
   rw [this]
   have : n * i.bytes ≤ 1048576 * 65536 := Nat.mul_le_mul hn hby
   omega
  simp only [List.getElem?_toArray, List.getElem?_cons_zero, List.getElem?_cons_succ, Sem.run_bind, run_und hu, run_und hd, run_size hs, Result.andThen_ok, Sem.run_pure, if_true, asInt, asIntOf, e1, Sem.run_ite, if_neg e2, run_info hi, if_neg e3, Bool.not_true, Bool.false_eq_true, if_false]
  have e4 : (Int.ofNat n).toNat = n := rfl
  rw [e4, if_pos hle]
  by_cases h0 : n * size = 0
  ·have hn0 : n = 0 := by
    rcases Nat.mul_eq_zero.1 h0 with h | h
    ·exact h
    ·omega
   subst hn0
   rw [zeroCells_nil] at hst
   rw [if_pos h0]
   simp only [Result.andThen_ok]
   cases base with
   | none => subst hst; rfl
   | some a => simp only [Sem.run_bind, hst, Result.andThen_ok, Sem.run_pure]
  ·rw [if_neg h0]
   simp only [hz, Result.andThen_ok]
   cases base with
   | none => subst hst; rfl
   | some a => simp only [Sem.run_bind, hst, Result.andThen_ok, Sem.run_pure]
theorem run_append_grow' {P : Program} {w : World} {st xt elem ty : TypeId} {i : TypeInfo} {n len cap : Nat} {base : Option Addr} {x zv : Value} {olds news : Array Value} (hu : P.underlying st = some (.slice elem)) (hi : P.info? elem = some i)
  (hx : AppX P w elem i.size xt x n news) (hlt : cap < len + n) (hby : i.bytes ≤ 65536) (hneed : len + n ≤ 2000000000) (hz : ∀ w', (zeroValue elem).run P w' = .ok zv w')
  (hold : (Builtin.firstCells i.size len (.slice base len cap)).run P w.drew = .ok olds w.drew) :
  (Builtin.append_ #[st, xt] ty #[.slice base len cap, x]).run P w =
   .ok (.slice (some ⟨w.heap.size, 0, none⟩) (len + n) (grownCap w (len + n) cap elem)) (w.drew.alloc (.cells (olds ++ news ++ Builtin.zeroCells zv.cells (grownCap w (len + n) cap elem - (len + n))) elem)) := by
 have hs : sizeT P elem = some i.size := by simp [sizeT, hi]
 obtain ⟨d, hd, hcase⟩ := hx.und
 have hnle : ¬ (len + n ≤ cap) := by omega
 have hfit : ¬ (Builtin.nextslicecap (len + n) cap * i.bytes > 2 ^ 48) := by
  have h1 : (len + n) * i.bytes ≤ 2000000000 * 65536 := Nat.mul_le_mul hneed hby
  have := growslice_fits (bytes := i.bytes) hlt (by omega)
  omega
 have hmax : ¬ (((len + n : Nat) : Int) > IntKind.i64.max) := by
  simp only [IntKind.max, IntKind.signed, IntKind.bits, if_true]; omega
 have hforced : (Question.appendCap (len + n) cap elem).forced = false := rfl
 unfold Builtin.append_
 rcases hcase with ⟨hni, hlen, hf⟩ | ⟨⟨k, rfl⟩, rfl, hn, hpos, zv', hz', ⟨j, hj, _⟩, rfl, hzs⟩
 ·have hold' : (Builtin.firstCells i.size len (.slice base len cap)).run P { w with drawn := w.drawn + 1 } = .ok olds { w with drawn := w.drawn + 1 } := hold
  rcases hni with rfl | ⟨e, rfl⟩
  all_goals
   simp only [List.getElem?_toArray, List.getElem?_cons_zero, List.getElem?_cons_succ, Sem.run_bind, run_und hu, run_und hd, run_size hs, Result.andThen_ok, Sem.run_pure, Bool.false_eq_true, if_false, hlen, Sem.run_ite, if_neg hnle, run_info hi, hmax, false_and, if_neg hfit, run_choose, hforced, run_askRoom]
   simp only [hold', Result.andThen_ok, Bool.not_false, if_true, hf { w with drawn := w.drawn + 1 } rfl, hz, newRow, Sem.run_bind, run_newObj, Sem.run_pure]
   rfl
 ·obtain rfl : zv' = zv := by have a := hz' w; rw [hz w] at a; cases a; rfl
  have e1 : IntKind.i64.wrap (Int.ofNat n) = Int.ofNat n := by simp only [IntKind.wrap, IntKind.bits, IntKind.signed]; simp; omega
  have e2 : ¬ (Int.ofNat n < 0) := by simp
  have e3 : ¬ (Int.ofNat n * (i.bytes : Int) > 2 ^ 48) := by
   have : (Int.ofNat n * (i.bytes : Int)) = ((n * i.bytes : Nat) : Int) := by simp
   rw [this]
   have : n * i.bytes ≤ 1048576 * 65536 := Nat.mul_le_mul hn hby
   omega
  simp only [List.getElem?_toArray, List.getElem?_cons_zero, List.getElem?_cons_succ, Sem.run_bind, run_und hu, run_und hd, run_size hs, Result.andThen_ok, Sem.run_pure, if_true, asInt, asIntOf, e1, Sem.run_ite, if_neg e2, run_info hi, if_neg e3, Bool.not_true, Bool.false_eq_true, if_false]
  have e4 : (Int.ofNat n).toNat = n := rfl
  rw [e4, if_neg hnle]
  simp only [hmax, false_and, if_false, Result.andThen_ok, if_neg hfit, run_choose, hforced, Bool.false_eq_true, run_askRoom]
  have hold' : (Builtin.firstCells i.size len (.slice base len cap)).run P { w with drawn := w.drawn + 1 } = .ok olds { w with drawn := w.drawn + 1 } := hold
  simp only [hold', Result.andThen_ok]
  by_cases h0 : n * i.size = 0
  ·have hn0 : n = 0 := by
    rcases Nat.mul_eq_zero.1 h0 with h | h
    ·exact h
    ·omega
   subst hn0
   rw [if_pos h0]
   simp only [Sem.run_pure, Result.andThen_ok, zeroCells_nil, hz, newRow, Sem.run_bind, run_newObj]
   rfl
  ·rw [if_neg h0]
   simp only [Sem.run_bind, hz', Sem.run_pure, Result.andThen_ok, newRow, run_newObj]
   rfl
theorem run_zeroT' {P : Program} {t : TypeId} {l : List AV} (h : zeroT P t = some l) : ∃ v i, (∀ w', (zeroValue t).run P w' = .ok v w') ∧ absL v.cells.toList = some l ∧ P.info? t = some i ∧ l.length = i.size := by
 unfold zeroT at h
 cases hi : P.info? t with
 | none => simp [hi] at h
 | some i =>
  simp only [hi] at h
  cases hz : i.zero with
  | none => simp [hz] at h
  | some v =>
   simp only [hz] at h
   cases ha : absL v.cells.toList with
   | none => simp [ha] at h
   | some r =>
    simp only [ha] at h
    split at h
    ·cases h; rename_i hl; exact ⟨v, i, fun w' => by simp [zeroValue, run_info hi, hz], ha, rfl, hl⟩
    ·cases h
theorem take_append_list {l r : List Value} {n : Nat} (h : l.length = n) : (l ++ r).take n = l := by rw [← h]; simp
theorem grow_ok {P : Program} {w0 : World} {C : CM} {H : Heap} {w : World} (hR : Rel w0 C H w) {elem : TypeId} {i : TypeInfo} {n : Nat} {l : List AV} {cs : Array Value} {cap : Nat} (hcap : n ≤ cap)
  (hl : l.length = n * i.size) (hcs : cs.size = cap * i.size) (hv : VRs C l (cs.toList.take l.length)) (h1 : ∀ a ∈ l, a.one = true) {nx : Sem Next}
  (hrun : nx.run P w = .ok (.value (.slice (some ⟨w.heap.size, 0, none⟩) n cap)) (w.drew.alloc (.cells cs elem))) : OROk P w0 C w nx (growA H n i.size l) := by
 unfold growA
 cases hn : newObj H l with
 | none => exact trivial
 | some r =>
  obtain ⟨o, H'⟩ := r
  have hm : n * i.size ≤ cap * i.size := Nat.mul_le_mul_right _ hcap
  obtain ⟨C', hle, hR', hC'⟩ := hR.drew.newRow hn elem (0, 0) (vs := cs) (by omega) hv h1 (by simp)
  refine ⟨C', _, _, hle, hR', ?_, .inl hrun⟩
  have := VR.sl (i := 0) (len := n) (esz := i.size) (room := none) (cap := cap) hC' (by dsimp only; omega) (by dsimp only; omega) hcap (fun r hr => by cases hr) (fun _ => by dsimp only; omega)
  simpa using this
theorem append_ok {P : Program} {w0 : World} {C : CM} {H : Heap} {w : World} (hR : Rel w0 C H w) {st xt elem ty : TypeId} {i : TypeInfo} (hu : P.underlying st = some (.slice elem)) (hi : P.info? elem = some i) (hpos : 0 < i.size)
  (hby : i.bytes ≤ 65536) {z : List AV} (hz : zeroT P elem = some z) {s : AV} {sv x : Value} (hs : VR C s sv) {n : Nat} {new : List AV} {news : Array Value} (hx : AppX P w elem i.size xt x n news) (hn : n ≤ 1048576)
  (hnew : VRs C new news.toList) (hone : ∀ a ∈ new, a.one = true) (hlen : new.length = n * i.size) :
  OROk P w0 C w (do pure (.value (← Builtin.append_ #[st, xt] ty #[sv, x]))) (appendA H i.size s n new) := by
 have hsz : sizeT P elem = some i.size := by simp [sizeT, hi]
 obtain ⟨zv, j, hz1, hz2, hz3, hz4⟩ := run_zeroT' hz
 rw [hi] at hz3; cases hz3
 have hzs : zv.cells.size = i.size := by
  have := (absL_spec (C := C) hz2).1.length
  simp at this; omega
 have hnews : news.size = n * i.size := by have := hnew.length; simp at this; omega
 unfold appendA
 split
 ·rename_i h0
  have hn0 : n = 0 := Nat.eq_of_beq_eq_true h0
  subst hn0
  have hnil : news = #[] := Array.eq_empty_of_size_eq_zero (by omega)
  subst hnil
  split
  ·cases hs
   have hr := run_append_room' (ty := ty) (base := none) (len := 0) (cap := 0) (w' := w) hu hsz hx (by omega) rfl
   exact val_same hR .nilSl (by simp only [Sem.run_bind, hr, Result.andThen_ok, Sem.run_pure])
  ·cases hs with
   | @emp a cap =>
    have hr := run_append_room' (ty := ty) (base := some a) (len := 0) (cap := cap) (w' := w) hu hsz hx (by omega) rfl
    exact val_same hR (x := .slice (some a) 0 cap) .emp (by simp only [Sem.run_bind, hr, Result.andThen_ok, Sem.run_pure])
  ·rename_i o v k len esz room
   have hs0 := hs
   cases hs with
   | @sl _ _ _ _ _ _ L cap hL q1 q2 q3 =>
    have hr := run_append_room' (ty := ty) (base := some ⟨L.b, L.d + k, none⟩) (len := len) (cap := cap) (w' := w) hu hsz hx (by omega) rfl
    exact val_same hR hs0 (by simp only [Sem.run_bind, hr, Result.andThen_ok, Sem.run_pure]; rfl)
  ·exact trivial
 ·rename_i h0
  have hn0 : n ≠ 0 := fun e => by rw [e] at h0; cases h0
  split
  ·cases hs
   have hg := grownCap_ge w (0 + n) 0 elem
   refine grow_ok hR (elem := elem) (cap := grownCap w (0 + n) 0 elem) (cs := #[] ++ news ++ Builtin.zeroCells zv.cells (grownCap w (0 + n) 0 elem - (0 + n))) (by omega) hlen ?_ ?_ hone ?_
   ·rw [Array.size_append, Array.size_append, size_zeroCells, hzs, hnews]
    have := mul_split i.size (show 0 + n ≤ grownCap w (0 + n) 0 elem from hg)
    simp at this ⊢; omega
   ·rw [Array.toList_append, Array.toList_append, take_append_list (by simp; omega)]
    simpa using hnew
   ·have := run_append_grow' (ty := ty) (base := none) (len := 0) (cap := 0) (olds := #[]) hu hi hx (by omega) hby (by omega) hz1 (by simp [Builtin.firstCells])
    simp only [Sem.run_bind, this, Result.andThen_ok, Sem.run_pure, Nat.zero_add]
  ·rename_i o v k len esz room
   split
   ·exact trivial
   ·rename_i he
    rw [Bool.and_eq_true] at he
    have hlim : len ≤ lim := Nat.le_of_ble_eq_true he.2
    have he' : esz = i.size := Nat.eq_of_beq_eq_true he.1
    subst he'
    cases hs with
    | @sl _ _ _ _ _ _ L cap hL q1 q2 q3 q4 q5 =>
     have hadd : (⟨L.b, L.d + k, none⟩ : Addr).add (len * i.size) = ⟨L.b, L.d + (k + len * i.size), none⟩ := add_addr _ _ _ _
     have hmul : (len + n) * i.size = len * i.size + n * i.size := Nat.add_mul _ _ _
     have hold : ∀ old, readAt H o v k (len * i.size) = some old → ∃ olds : Array Value, (Builtin.firstCells i.size len (.slice (some ⟨L.b, L.d + k, none⟩) len cap)).run P w.drew = .ok olds w.drew ∧ VRs C old olds.toList ∧ (∀ a ∈ old, a.one = true) ∧ old.length = len * i.size := by
      intro old hr
      obtain ⟨vs, p1, p2, p3, p4, _, _⟩ := hR.drew.read P hr hL
      exact ⟨vs.toArray, by simpa [Builtin.firstCells] using p1, by simpa using p2, p3, p4⟩
     split
     ·rename_i r
      obtain ⟨hcap, hroom⟩ := q4 r rfl
      subst hcap
      split
      ·rename_i hle
       have hle' : len + n ≤ cap := Nat.le_of_ble_eq_true hle
       split
       ·rename_i H' hw
        have hw' : writeAt H o v (k + len * i.size) new = some H' := hw
        obtain ⟨w', p1, p2⟩ := hR.write P hw' hL hnew hone
        have hm2 : (len + n) * i.size ≤ cap * i.size := Nat.mul_le_mul_right _ hle'
        refine ⟨C, w', .slice (some ⟨L.b, L.d + k, none⟩) (len + n) cap, CM.le_refl C, p2, .sl hL (show k + (len + n) * i.size ≤ L.n by omega) q2 hle' (fun r hr => by cases hr; exact ⟨rfl, hroom⟩) (fun e => by cases e), .inl ?_⟩
        simp only [Sem.run_bind, run_append_room' (w' := w') (base := some ⟨L.b, L.d + k, none⟩) hu hsz hx hle' (by dsimp only; rw [hadd]; exact p1), Result.andThen_ok, Sem.run_pure]
       ·exact trivial
      ·rename_i hle
       have hlt : cap < len + n := by
        rcases Nat.lt_or_ge cap (len + n) with h | h
        ·exact h
        ·rw [show Nat.ble (Nat.add len n) cap = true from Nat.ble_eq_true_of_le h] at hle; cases hle
       split
       ·rename_i old hr
        obtain ⟨olds, p1, p2, p3, p4⟩ := hold old hr
        have hos : olds.size = len * i.size := by have := p2.length; simp at this; omega
        have hg := grownCap_ge w (len + n) cap elem
        refine grow_ok hR (elem := elem) (cap := grownCap w (len + n) cap elem) (cs := olds ++ news ++ Builtin.zeroCells zv.cells (grownCap w (len + n) cap elem - (len + n))) hg ?_ ?_ ?_ ?_ ?_
        ·rw [List.length_append, p4, hlen]; exact hmul.symm
        ·rw [Array.size_append, Array.size_append, size_zeroCells, hzs, hnews, hos]
         have := mul_split i.size hg
         omega
        ·rw [Array.toList_append, Array.toList_append, take_append_list (by simp; omega)]
         exact p2.append hnew
        ·intro a ha
         rcases List.mem_append.1 ha with h | h
         ·exact p3 a h
         ·exact hone a h
        ·have := run_append_grow' (ty := ty) (base := some ⟨L.b, L.d + k, none⟩) hu hi hx hlt hby (by unfold lim at hlim; omega) hz1 p1
         simp only [Sem.run_bind, this, Result.andThen_ok, Sem.run_pure]
       ·exact trivial
     ·have hfull := q5 rfl
      split
      ·rename_i c clen ver hg
       split
       ·exact trivial
       ·rename_i hv
        have hv' : v = ver := Nat.eq_of_beq_eq_true hv
        subst hv'
        have ho := hR.fresh _ _ _ hL
        have hob := hR.obj o _ ho hg
        obtain ⟨p1, p2, p3, vs, e, lo, hi', p4, p5, p6, p7⟩ := hob L hL
        split
        ·rename_i hle
         have hle' : k + (len + n) * i.size ≤ clen := Nat.le_of_ble_eq_true hle
         have hle2 : len + n ≤ cap := by
          have : (len + n) * i.size ≤ cap * i.size := by omega
          exact Nat.le_of_mul_le_mul_right this hpos
         split
         ·rename_i H' hw
          have hw' : writeAt H o v (k + len * i.size) new = some H' := hw
          obtain ⟨w', r1, r2⟩ := hR.write P hw' hL hnew hone
          refine ⟨C, w', .slice (some ⟨L.b, L.d + k, none⟩) (len + n) cap, CM.le_refl C, r2, .sl hL (show k + (len + n) * i.size ≤ L.n by omega) q2 hle2 (fun r hr => by cases hr) (fun _ => hfull), .inl ?_⟩
          simp only [Sem.run_bind, run_append_room' (w' := w') (base := some ⟨L.b, L.d + k, none⟩) hu hsz hx hle2 (by dsimp only; rw [hadd]; exact r1), Result.andThen_ok, Sem.run_pure]
         ·exact trivial
        ·rename_i hnle
         split
         ·exact trivial
         ·rename_i hk
          have hk' : k = 0 := Nat.eq_of_beq_eq_true hk
          subst hk'
          split
          ·exact trivial
          ·rename_i htip
           have htip' : len * i.size = clen := Nat.eq_of_beq_eq_true htip
           by_cases hc : len + n ≤ cap
           ·-- there is room: written behind what is there
            have hm2 : (len + n) * i.size ≤ cap * i.size := Nat.mul_le_mul_right _ hc
            obtain ⟨w', vs', r1, r2, r3, r4, r5, r6, r7, r8, r9⟩ := run_storeCells P ⟨L.b, L.d + (0 + len * i.size), none⟩ news.toList 0 w vs e lo hi' rfl p4 (hnew.one hone) (by simp; omega)
             (fun j hj hj' => by simp at hj hj'; exact p6 j (by omega) (by omega))
            obtain ⟨hR', hle'⟩ := hR.bump ho ⟨_, _, hL⟩ hg ⟨L.b, L.d, clen + new.length, L.sz⟩ (ofListFrom new clen c) (clen + new.length) (w' := w')
             (hR.low.trans ⟨r6, r7, r8, by omega, fun j hj => r4 j (by dsimp only; have := p2 rfl; omega)⟩) (by omega) (show L.b < w'.heap.size by rw [r5]; exact hR.lt _ _ _ hL)
             (fun o' v' L' hL' hb => (hR.excl _ _ _ _ _ _ hL hL' hb.symm (p2 rfl)).symm)
             (fun o' v' L' hne hL' => r4 _ (fun e' => hne (hR.excl _ _ _ _ _ _ hL hL' e'.symm (p2 rfl)).symm))
             (by
              intro L' hL'
              rw [CM.ext_same] at hL'; cases hL'
              refine ⟨rfl, fun _ => p2 rfl, by dsimp only; omega, vs', e, lo, hi', r2, by dsimp only; omega, p6, ?_⟩
              refine CellsR.mono (CM.le_ext _ ?_ (.inl ⟨_, _, hL⟩)) (p7.lay hnew hone (Nat.le_refl _) (Nat.le_refl _) (.inr rfl) (fun j => ?_))
              ·cases e' : C o (v + 1) with
               | none => rfl
               | some L'' => have := hR.top _ _ _ _ _ ho hg _ _ e'; omega
              ·rw [r9 j]
               have : L.d + (0 + len * i.size) + 0 = L.d + clen := by omega
               simp only [this])
            refine ⟨_, w', .slice (some ⟨L.b, L.d + 0, none⟩) (len + n) cap, hle', hR', ?_, .inl ?_⟩
            ·exact VR.sl (L := ⟨L.b, L.d, clen + new.length, L.sz⟩) (i := 0) (len := len + n) (esz := i.size) (room := none) (cap := cap) (CM.ext_same C o (v + 1) ⟨L.b, L.d, clen + new.length, L.sz⟩)
              (by dsimp only; omega) (by dsimp only; omega) hc (fun r hr => by cases hr) (fun _ => by dsimp only; omega)
            ·simp only [Sem.run_bind, run_append_room' (w' := w') (base := some ⟨L.b, L.d + 0, none⟩) hu hsz hx hc (by dsimp only; rw [hadd]; exact r1), Result.andThen_ok, Sem.run_pure]
           ·-- a new row
            have hr : ∃ old, readAt H o v 0 (len * i.size) = some old := by
             unfold readAt
             rw [hg]
             have hb : Nat.ble (Nat.add 0 (len * i.size)) clen = true := Nat.ble_eq_true_of_le (by show 0 + len * i.size ≤ clen; omega)
             simp only [Nat.beq_refl, hb]
             have : ∀ m a, a + m ≤ clen → ∃ l, getCells c a m = some l := by
              intro m
              induction m with
              | zero => intro a _; exact ⟨[], rfl⟩
              | succ m ih =>
               intro a ha
               obtain ⟨x1, y1, _⟩ := p7 a (by omega)
               obtain ⟨l1, y2⟩ := ih (a + 1) (by omega)
               exact ⟨x1 :: l1, by simp only [getCells, y1, y2]⟩
             exact this _ 0 (by omega)
            obtain ⟨old, hr⟩ := hr
            obtain ⟨olds, s1, s2, s3, s4⟩ := hold old hr
            have hos : olds.size = len * i.size := by have := s2.length; simp at this; omega
            have hge := grownCap_ge w (len + n) cap elem
            have hrun := run_append_grow' (ty := ty) (base := some ⟨L.b, L.d + 0, none⟩) hu hi hx (by omega) hby (by unfold lim at hlim; omega) hz1 s1
            have hms := mul_split i.size hge
            have hcsz : (olds ++ news ++ Builtin.zeroCells zv.cells (grownCap w (len + n) cap elem - (len + n))).size = grownCap w (len + n) cap elem * i.size := by
             rw [Array.size_append, Array.size_append, size_zeroCells, hzs, hnews, hos]; omega
            obtain ⟨hR', hle'⟩ := hR.bump ho ⟨_, _, hL⟩ hg ⟨w.heap.size, 0, clen + new.length, grownCap w (len + n) cap elem * i.size⟩ (ofListFrom new clen c) (clen + new.length)
             (w' := w.drew.alloc (.cells (olds ++ news ++ Builtin.zeroCells zv.cells (grownCap w (len + n) cap elem - (len + n))) elem))
             (hR.low.drew.alloc hR.low.size _) (by rw [World.size_alloc, World.size_drew]; omega) (by rw [World.size_alloc, World.size_drew]; dsimp only; omega)
             (fun o' v' L' hL' hb => by have := hR.lt _ _ _ hL'; dsimp only at hb; omega)
             (fun o' v' L' _ hL' => heap_alloc_lt w.drew _ (hR.lt _ _ _ hL'))
             (by
              intro L' hL'
              rw [CM.ext_same] at hL'; cases hL'
              refine ⟨rfl, fun _ => hR.low.size, by dsimp only; omega, _, elem, 0, 0, heap_alloc_new w.drew _, by rw [hcsz]; exact Nat.le_refl _, fun _ _ _ => by omega, ?_⟩
              have hnone : C o (v + 1) = none := by
               cases e' : C o (v + 1) with
               | none => rfl
               | some L'' => have := hR.top _ _ _ _ _ ho hg _ _ e'; omega
              refine CellsR.mono (CM.le_ext _ hnone (.inl ⟨_, _, hL⟩)) ?_
              obtain ⟨g1, g2⟩ := getCells_spec (show getCells c 0 (len * i.size) = some old by
               unfold readAt at hr; rw [hg] at hr; dsimp only at hr
               split at hr
               ·split at hr
                ·exact hr
                ·cases hr
               ·cases hr)
              intro j hj
              rw [get_ofList new clen c j, Nat.zero_add]
              by_cases hj' : clen ≤ j ∧ j < clen + new.length
              ·rw [if_pos hj']
               obtain ⟨a, x1, y1, y2, y3⟩ := hnew.get' (i := j - clen) (by omega)
               refine ⟨a, y1, hone a (List.mem_of_getElem? y1), x1, ?_, y3⟩
               rw [Array.getElem?_append_left (by rw [Array.size_append]; omega), Array.getElem?_append_right (by omega), hos, htip']
               simpa using y2
              ·rw [if_neg hj']
               have hj2 : j < len * i.size := by omega
               have := g2 j hj2
               rw [Nat.zero_add] at this
               obtain ⟨a, x1, y1, y2, y3⟩ := s2.get' (i := j) (by omega)
               rw [y1] at this
               refine ⟨a, this, s3 a (List.mem_of_getElem? y1), x1, ?_, y3⟩
               rw [Array.getElem?_append_left (by rw [Array.size_append]; omega), Array.getElem?_append_left (by omega)]
               simpa using y2)
            refine ⟨_, _, .slice (some ⟨w.heap.size, 0, none⟩) (len + n) (grownCap w (len + n) cap elem), hle', hR', ?_, .inl ?_⟩
            ·have := VR.sl (i := 0) (len := len + n) (esz := i.size) (room := none) (cap := grownCap w (len + n) cap elem) (CM.ext_same C o (v + 1) ⟨w.heap.size, 0, clen + new.length, grownCap w (len + n) cap elem * i.size⟩)
              (by dsimp only; omega) (by dsimp only; omega) hge (fun r hr => by cases hr) (fun _ => by dsimp only; omega)
             simpa using this
            ·simp only [Sem.run_bind, hrun, Result.andThen_ok, Sem.run_pure]
      ·exact trivial
  ·exact trivial
end Go.Sv
