/- An evaluator of the model's code over abstract values: deterministic, made to be run by the kernel. The definitions alone. -/
import Derived.AtR
import Derived.Laws.Sem
import Derived.Laws.World
import Derived.KernelRfl
namespace Go.Sv

/-! ### Tries keyed by paths -/
inductive Tr (α : Type) where
  | e
  | n (v : Option α) (l r : Tr α)

structure GetF (α : Type) where run : Tr α → Option α
structure SetF (α : Type) where run : α → Tr α → Tr α
noncomputable def getF {α : Type} : List Bool → GetF α
  | [] => ⟨fun t => Tr.rec none (fun v _ _ _ _ => v) t⟩
  | b :: p => match b with
    | true => ⟨fun t => Tr.rec none (fun _ l _ _ _ => (getF p).run l) t⟩
    | false => ⟨fun t => Tr.rec none (fun _ _ r _ _ => (getF p).run r) t⟩
noncomputable def setF {α : Type} : List Bool → SetF α
  | [] => ⟨fun a t => Tr.rec (.n (some a) .e .e) (fun _ l r _ _ => .n (some a) l r) t⟩
  | b :: p => match b with
    | true => ⟨fun a t => Tr.rec (.n none ((setF p).run a .e) .e) (fun v l r _ _ => .n v ((setF p).run a l) r) t⟩
    | false => ⟨fun a t => Tr.rec (.n none .e ((setF p).run a .e)) (fun v l r _ _ => .n v l ((setF p).run a r)) t⟩
noncomputable def getP {α : Type} (p : List Bool) (t : Tr α) : Option α := (getF p).run t
noncomputable def setP {α : Type} (a : α) (p : List Bool) (t : Tr α) : Tr α := (setF p).run a t

noncomputable def pathF : Nat → Nat → List Bool
  | 0, _ => []
  | f + 1, k => match k with
    | 0 => []
    | k + 1 => Nat.beq (Nat.mod k 2) 0 :: pathF f (Nat.div k 2)
noncomputable def pathOf (k : Nat) : List Bool := pathF (Nat.succ k) k
/-- How many temporaries; how long a row that is appended to. -/
noncomputable def lim : Nat := 1000000000

noncomputable def ofListFrom {α : Type} : List α → Nat → Tr α → Tr α
  | [], _, t => t
  | a :: l, i, t => ofListFrom l (i + 1) (setP a (pathOf i) t)

/-! ### Values -/
inductive AV where
  | bool (b : Bool)
  | int (k : IntKind) (n : Int)
  | str (len n : Nat)
  | nilPtr
  | ptr (o v i : Nat)
  | nilSl
  | sl (o v i len esz : Nat) (room : Option Nat)
  | emp
  | nilMap
  | map (o : Nat)
  | nilFn
  | fn (f : Fn) (first cap : List AV)
  | nilIf
  | iface (t : TypeId) (v : AV)
  | agg (cs : List AV)
  | tup (vs : List AV)
  deriving Inhabited

/-- The cells that a value fills: a struct's or an array's own, else itself. -/
noncomputable def AV.cells : AV → Option (List AV)
  | .agg cs => some cs
  | .tup _ => none
  | v => some [v]

/-- A list of bytes as one number. -/
noncomputable def packL : List UInt8 → Nat
  | [] => 0
  | b :: l => b.toNat + 256 * packL l

/-- A scalar constant. -/
noncomputable def absS : Value → Option AV
  | .bool b => some (.bool b)
  | .int k n => some (.int k n)
  | .string s => some (.str s.data.toList.length (packL s.data.toList))
  | .pointer none => some .nilPtr
  | .slice none 0 0 => some .nilSl
  | .map none => some .nilMap
  | .nilFunc => some .nilFn
  | .nilIface => some .nilIf
  | _ => none
noncomputable def absL : List Value → Option (List AV)
  | [] => some []
  | v :: l => match absS v with
    | none => none
    | some a => match absL l with
      | none => none
      | some r => some (a :: r)
noncomputable def absV : Value → Option AV
  | .agg cs => (absL cs.toList).map .agg
  | .tuple vs => if vs.size = 0 then some (.tup []) else none
  | v => absS v

/-! ### The heap -/
inductive AObj where
  | cells (c : Tr AV) (len ver : Nat) (ro : Bool)
  | map (es : List (AV × AV × Nat)) (clock : Nat)
  | iter (len n pos : Nat)
  | loop (st : LoopState) (pend : Option Code) (f nt : Nat) (env : Tr AV) (ps : Array Tmp) (assign body : Code) (defers : Nat)
  | defd (isOpen : Bool)

structure Heap where
  t : Tr AObj
  next : Nat

noncomputable def Heap.get (H : Heap) (o : Nat) : Option AObj := getP (pathOf o) H.t
noncomputable def Heap.put (H : Heap) (o : Nat) (x : AObj) : Heap := ⟨setP x (pathOf o) H.t, H.next⟩
noncomputable def Heap.push (H : Heap) (x : AObj) : Heap := ⟨setP x (pathOf H.next) H.t, H.next + 1⟩

noncomputable def getCells (c : Tr AV) : Nat → Nat → Option (List AV)
  | _, 0 => some []
  | i, n + 1 => match getP (pathOf i) c with
    | none => none
    | some a => match getCells c (i + 1) n with
      | none => none
      | some l => some (a :: l)

/-- What stands at a place of an object's, so many cells. -/
noncomputable def readAt (H : Heap) (o v i n : Nat) : Option (List AV) :=
  match H.get o with
  | some (.cells c len ver _) => match Nat.beq v ver with
    | true => match Nat.ble (Nat.add i n) len with
      | true => getCells c i n
      | false => none
    | false => none
  | _ => none
noncomputable def writeAt (H : Heap) (o v i : Nat) (l : List AV) : Option Heap :=
  match H.get o with
  | some (.cells c len ver false) => match Nat.beq v ver with
    | true => match Nat.ble (Nat.add i l.length) len with
      | true => some (H.put o (.cells (ofListFrom l i c) len ver false))
      | false => none
    | false => none
  | _ => none
noncomputable def newObj (H : Heap) (l : List AV) : Option (Nat × Heap) := some (H.next, H.push (.cells (ofListFrom l 0 .e) l.length 0 false))

/-! ### Operations -/
inductive Tgt where
  | fn (f : Nat)
  | yield (l : Nat)

inductive OR where
  | no
  | val (v : AV) (H : Heap)
  | call (t : Tgt) (args : List AV)

structure OpdF where run : Tr AV → Option AV
structure OpF where run : Tr AV → Heap → OR

noncomputable def undefA : AV := .tup []

noncomputable def opd (x : Operand) : OpdF :=
  match x with
  | .tmp t => match Nat.ble t lim with
    | true => ⟨fun E => Option.rec (some undefA) (fun v => some v) (getP (pathOf t) E)⟩
    | false => ⟨fun _ => none⟩
  | .const v => match absV v with
    | some a => ⟨fun _ => some a⟩
    | none => ⟨fun _ => none⟩
  | .func f => ⟨fun _ => some (.fn (.func f) [] [])⟩
  | .global _ => ⟨fun _ => none⟩

structure OpdsF where run : Tr AV → Option (List AV)
noncomputable def opds : List Operand → OpdsF
  | [] => ⟨fun _ => some []⟩
  | x :: l => ⟨fun E => match (opd x).run E with
    | none => none
    | some a => match (opds l).run E with
      | none => none
      | some r => some (a :: r)⟩

noncomputable def stuckF : OpF := ⟨fun _ _ => .no⟩
noncomputable def ret1 (H : Heap) (o : Option AV) : OR := match o with
  | some v => .val v H
  | none => .no

noncomputable def unary1 (x : Operand) (f : Heap → AV → OR) : OpF := ⟨fun E H => Option.rec .no (fun a => f H a) ((opd x).run E)⟩
noncomputable def binary2 (x y : Operand) (f : Heap → AV → AV → OR) : OpF := ⟨fun E H => Option.rec .no (fun a => Option.rec .no (fun b => f H a b) ((opd y).run E)) ((opd x).run E)⟩

noncomputable def sizeT (P : Program) (t : TypeId) : Option Nat := (P.info? t).map (·.size)
noncomputable def aggT (P : Program) (t : TypeId) : Option Bool := match P.underlying t with
  | some (.struct _) | some (.array _ _) => some true
  | some _ => some false
  | none => none
/-- The cells of a type's zero. -/
noncomputable def zeroT (P : Program) (t : TypeId) : Option (List AV) := match P.info? t with
  | some i => match i.zero with
    | some v => match absL v.cells.toList with
      | some l => if l.length = i.size then some l else none
      | none => none
    | none => none
  | none => none
/-- A type's zero. -/
noncomputable def zeroV (P : Program) (t : TypeId) : Option AV := match P.info? t with
  | some i => match i.zero with
    | some v => absV v
    | none => none
  | none => none

noncomputable def newVarA (H : Heap) (l : List AV) : OR := match newObj H l with
  | some (o, H') => .val (.ptr o 0 0) H'
  | none => .no

noncomputable def kindIx : IntKind → Nat
  | .i8 => 0 | .i16 => 1 | .i32 => 2 | .i64 => 3 | .u8 => 4 | .u16 => 5 | .u32 => 6 | .u64 => 7
noncomputable def kindEq (k k' : IntKind) : Bool := Nat.beq (kindIx k) (kindIx k')
noncomputable def eqI (a b : Int) : Bool := match a, b with
  | .ofNat x, .ofNat y => Nat.beq x y
  | .negSucc x, .negSucc y => Nat.beq x y
  | _, _ => false
noncomputable def ltI (a b : Int) : Bool := match a, b with
  | .ofNat x, .ofNat y => Nat.blt x y
  | .negSucc x, .negSucc y => Nat.blt y x
  | .negSucc _, .ofNat _ => true
  | .ofNat _, .negSucc _ => false
/-- Half of what a kind's numbers are. -/
noncomputable def halfK : IntKind → Nat
  | .i8 => 128 | .u8 => 128 | .i16 => 32768 | .u16 => 32768 | .i32 => 2147483648 | .u32 => 2147483648
  | .i64 => 9223372036854775808 | .u64 => 9223372036854775808
noncomputable def wrapA (k : IntKind) (n : Int) : Int := match n with
  | .ofNat m => match Nat.blt m (halfK k) with
    | true => .ofNat m
    | false => k.wrap (.ofNat m)
  | .negSucc m => k.wrap (.negSucc m)
noncomputable def fullK (k : IntKind) : Nat := Nat.mul 2 (halfK k)
noncomputable def bitsA (f : Nat → Nat → Nat) (k : IntKind) (a b : Int) : Option AV := match a, b with
  | .ofNat x, .ofNat y => match Nat.blt x (fullK k) with
    | true => match Nat.blt y (fullK k) with
      | true => some (.int k (wrapA k (.ofNat (f x y))))
      | false => none
    | false => none
  | _, _ => none
noncomputable def isZ (b : Int) : Bool := match b with
  | .ofNat n => Nat.beq n 0
  | _ => false
noncomputable def arith (op : BinOp) (k : IntKind) (a b : Int) : Option AV :=
  match op with
  | .add => some (.int k (wrapA k (Int.add a b)))
  | .sub => some (.int k (wrapA k (Int.sub a b)))
  | .mul => some (.int k (wrapA k (Int.mul a b)))
  | .quo => match isZ b with
    | true => none
    | false => some (.int k (wrapA k (Int.tdiv a b)))
  | .rem => match isZ b with
    | true => none
    | false => some (.int k (Int.tmod a b))
  | .and => bitsA Nat.land k a b
  | .or => bitsA Nat.lor k a b
  | .xor => bitsA Nat.xor k a b
  | .andNot => bitsA (fun x y => Nat.xor x (Nat.land x y)) k a b
  | .eql => some (.bool (eqI a b))
  | .neq => some (.bool (!(eqI a b)))
  | .lss => some (.bool (ltI a b))
  | .leq => some (.bool (!(ltI b a)))
  | .gtr => some (.bool (ltI b a))
  | .geq => some (.bool (!(ltI a b)))
  | _ => none
noncomputable def minN (a b : Nat) : Nat := match Nat.ble a b with
  | true => a
  | false => b
noncomputable def shiftA (op : BinOp) (k : IntKind) (a : Int) (y : Int) : Option AV :=
  match a, y with
  | .ofNat x, .ofNat y => match op with
    | .shl => some (.int k (wrapA k (.ofNat (Nat.mul x (Nat.pow 2 (minN y k.bits))))))
    | .shr => some (.int k (.ofNat (Nat.div x (Nat.pow 2 (minN y k.bits)))))
    | _ => none
  | _, _ => none

noncomputable def unpackL : Nat → Nat → List Nat
  | 0, _ => []
  | len + 1, n => Nat.mod n 256 :: unpackL len (Nat.div n 256)
noncomputable def natsLess : List Nat → List Nat → Bool
  | _, [] => false
  | [], _ :: _ => true
  | a :: x, b :: y => Nat.blt a b || (Nat.beq a b && natsLess x y)

noncomputable def strOp (op : BinOp) (la a lb b : Nat) : Option AV :=
  match op with
  | .add => match Nat.ble (Nat.add la lb) lim with
    | true => some (.str (Nat.add la lb) (Nat.add a (Nat.mul b (Nat.pow 256 la))))
    | false => none
  | .eql => some (.bool (Nat.beq la lb && Nat.beq a b))
  | .neq => some (.bool (!(Nat.beq la lb && Nat.beq a b)))
  | .lss => some (.bool (natsLess (unpackL la a) (unpackL lb b)))
  | .gtr => some (.bool (!(natsLess (unpackL la a) (unpackL lb b) || (Nat.beq la lb && Nat.beq a b))))
  | .leq => some (.bool (natsLess (unpackL la a) (unpackL lb b) || (Nat.beq la lb && Nat.beq a b)))
  | .geq => some (.bool (!(natsLess (unpackL la a) (unpackL lb b))))
  | _ => none

noncomputable def sub1 (l : List AV) (off n : Nat) : Option (List AV) := match Nat.ble (Nat.add off n) l.length with
  | true => some ((l.drop off).take n)
  | false => none
noncomputable def partA (g : Bool) (size : Nat) (l : List AV) (off : Nat) : Option AV :=
  match g with
  | true => match sub1 l off size with
    | some r => some (.agg r)
    | none => none
  | false => l[off]?
/-- A part of a struct's or an array's cells, by its type. -/
noncomputable def partT (P : Program) (t : TypeId) (l : List AV) (off : Nat) : Option AV :=
  match aggT P t, sizeT P t with
  | some g, some n => partA g n l off
  | _, _ => none

/-- Fields, one behind the other: are they the same? -/
noncomputable def eqFs (P : Program) (f : TypeId → AV → AV → Option Bool) (xs ys : List AV) : List Field → Option Bool
  | [] => some true
  | fd :: l => match fd.name != "_" with
    | true => match partT P fd.type xs fd.offset, partT P fd.type ys fd.offset with
      | some a, some b => match f fd.type a b with
        | some true => eqFs P f xs ys l
        | some false => some false
        | none => none
      | _, _ => none
    | false => eqFs P f xs ys l
noncomputable def eqEs (P : Program) (f : TypeId → AV → AV → Option Bool) (t : TypeId) (n : Nat) (xs ys : List AV) : List Nat → Option Bool
  | [] => some true
  | i :: l => match partT P t xs (Nat.mul i n), partT P t ys (Nat.mul i n) with
    | some a, some b => match f t a b with
      | some true => eqEs P f t n xs ys l
      | some false => some false
      | none => none
    | _, _ => none

/-- '==' by a type. -/
noncomputable def eqT1 (P : Program) (f : TypeId → AV → AV → Option Bool) (t : TypeId) (a b : AV) : Option Bool := match P.underlying t, a, b with
    | some .bool, .bool x, .bool y => some (x == y)
    | some (.int _), .int k x, .int k' y => match kindEq k k' with
      | true => some (eqI x y)
      | false => none
    | some .string, .str la x, .str lb y => some (Nat.beq la lb && Nat.beq x y)
    | some (.pointer _), .nilPtr, .nilPtr => some true
    | some (.pointer _), .nilPtr, .ptr _ _ _ => some false
    | some (.pointer _), .ptr _ _ _, .nilPtr => some false
    | some (.interface _), .nilIf, .nilIf => some true
    | some (.interface _), .nilIf, .iface _ _ => some false
    | some (.interface _), .iface _ _, .nilIf => some false
    | some (.slice _), .nilSl, .nilSl => some true
    | some (.slice _), .nilSl, .sl _ _ _ _ _ _ => some false
    | some (.slice _), .sl _ _ _ _ _ _, .nilSl => some false
    | some (.slice _), .nilSl, .emp => some false
    | some (.slice _), .emp, .nilSl => some false
    | some (.map _ _), .nilMap, .nilMap => some true
    | some (.map _ _), .nilMap, .map _ => some false
    | some (.map _ _), .map _, .nilMap => some false
    | some (.func _ _ _), .nilFn, .nilFn => some true
    | some (.func _ _ _), .nilFn, .fn _ _ _ => some false
    | some (.func _ _ _), .fn _ _ _, .nilFn => some false
    | some (.struct fs), .agg xs, .agg ys => match P.stoodInHeld t with
      | true => none
      | false => eqFs P f xs ys fs.toList
    | some (.array n e), .agg xs, .agg ys => match sizeT P e with
      | some s => eqEs P f e s xs ys (List.range n)
      | none => none
    | _, _, _ => none
noncomputable def eqT (P : Program) : Nat → TypeId → AV → AV → Option Bool
  | 0 => fun _ _ _ => none
  | d + 1 => eqT1 P (eqT P d)

/-- Which operands '==' takes without a question more: no two nil interface values but where one is the literal nil, no struct that may hold such. -/
noncomputable def guardT (P : Program) (g : Bool) (t : TypeId) (a b : AV) : Bool := match a, b with
  | .nilIf, .nilIf => g
  | .agg _, .agg _ => !(P.eqGuardType P.depth t)
  | _, _ => true
noncomputable def eqA (P : Program) (g : Bool) (t : TypeId) (a b : AV) : Option Bool := match guardT P g t a b with
  | true => eqT P 20 t a b
  | false => none

noncomputable def notB : Option Bool → Option AV
  | some b => some (.bool (!b))
  | none => none
noncomputable def yesB : Option Bool → Option AV
  | some b => some (.bool b)
  | none => none

noncomputable def isConstO : Operand → Bool
  | .const _ => true
  | _ => false

noncomputable def binA (P : Program) (op : BinOp) (g : Bool) (t : TypeId) (a b : AV) : Option AV :=
  match a, b with
  | .int k x, .int k' y => match op with
    | .shl => shiftA .shl k x y
    | .shr => shiftA .shr k x y
    | op => match kindEq k k' with
      | true => arith op k x y
      | false => none
  | .str la x, .str lb y => strOp op la x lb y
  | a, b => match op with
    | .eql => yesB (eqA P g t a b)
    | .neq => notB (eqA P g t a b)
    | _ => none

noncomputable def unA (op : UnOp) (a : AV) : Option AV :=
  match op, a with
  | .neg, .int k n => some (.int k (wrapA k (Int.sub 0 n)))
  | .xor, .int k n => some (.int k (k.wrap (BitVec.ofInt k.bits (if k.signed then -1 else k.max) ^^^ BitVec.ofInt k.bits n).toNat))
  | .not, .bool b => some (.bool (!b))
  | _, _ => none

/-- Cells laid over cells, from a place on. -/
noncomputable def layL : List AV → Nat → List AV → List AV
  | cs, _, [] => cs
  | cs, i, a :: l => layL (cs.set i a) (i + 1) l
structure Part where
  off : Nat
  size : Nat
  v : OpdF
noncomputable def fillA (cs : List AV) : List Part → Tr AV → Option (List AV)
  | [], _ => some cs
  | p :: ps, E => match p.v.run E with
    | none => none
    | some a => match a.cells with
      | none => none
      | some l => match Nat.beq l.length p.size with
        | true => match Nat.ble (Nat.add p.off p.size) cs.length with
          | true => fillA (layL cs p.off l) ps E
          | false => none
        | false => none

noncomputable def partsAt (place : Nat → Option (Nat × Nat)) : List (Nat × Operand) → Option (List Part)
  | [] => some []
  | (i, x) :: l => match place i with
    | none => none
    | some (o, s) => match partsAt place l with
      | none => none
      | some r => some (⟨o, s, opd x⟩ :: r)

noncomputable def fieldsAt (P : Program) : List Field → Option (List (Nat × Nat))
  | [] => some []
  | f :: l => match sizeT P f.type with
    | none => none
    | some s => match fieldsAt P l with
      | none => none
      | some r => some ((f.offset, s) :: r)

noncomputable def buildF (P : Program) (t : TypeId) (parts : Array (Nat × Operand)) : OpF :=
  match zeroT P t with
  | none => stuckF
  | some cs => match P.underlying t with
    | some (.struct fields) => match fieldsAt P fields.toList with
      | none => stuckF
      | some pl => match partsAt (pl[·]?) parts.toList with
        | none => stuckF
        | some ps => ⟨fun E H => match fillA cs ps E with
          | some l => .val (.agg l) H
          | none => .no⟩
    | some (.array _ elem) => match sizeT P elem with
      | none => stuckF
      | some size => match partsAt (fun i => some (i * size, size)) parts.toList with
        | none => stuckF
        | some ps => ⟨fun E H => match fillA cs ps E with
          | some l => .val (.agg l) H
          | none => .no⟩
    | _ => stuckF

noncomputable def repeatL (l : List AV) : Nat → List AV
  | 0 => []
  | n + 1 => l ++ repeatL l n

noncomputable def buildSliceF (P : Program) (t : TypeId) (len : Nat) (parts : Array (Nat × Operand)) : OpF :=
  match P.underlying t with
  | some (.slice elem) => match sizeT P elem with
    | none => stuckF
    | some size => match zeroT P elem with
      | none => stuckF
      | some z => if len * size ≤ 2 ^ 20 ∧ 0 < size then
          match partsAt (fun i => some (i * size, size)) parts.toList with
          | none => stuckF
          | some ps => ⟨fun E H => match fillA (repeatL z len) ps E with
            | some l => match newObj H l with
              | some (o, H') => .val (.sl o 0 0 len size (some len)) H'
              | none => .no
            | none => .no⟩
        else stuckF
  | _ => stuckF

noncomputable def loadF (P : Program) (t : TypeId) (x : Operand) : OpF :=
  match aggT P t, sizeT P t with
  | some true, some n => unary1 x fun H a => match a with
    | .ptr o v i => match readAt H o v i n with
      | some l => .val (.agg l) H
      | none => .no
    | _ => .no
  | some false, some _ => unary1 x fun H a => match a with
    | .ptr o v i => match readAt H o v i 1 with
      | some [c] => .val c H
      | _ => .no
    | _ => .no
  | _, _ => stuckF

noncomputable def storeF (P : Program) (t : TypeId) (x y : Operand) : OpF :=
  match sizeT P t with
  | some n => binary2 x y fun H a b => match a with
    | .ptr o v i => match b.cells with
      | some l => match Nat.beq l.length n with
        | true => match writeAt H o v i l with
          | some H' => .val undefA H'
          | none => .no
        | false => .no
      | none => .no
    | _ => .no
  | none => stuckF

noncomputable def nilCheckA (H : Heap) (a : AV) : OR := match a with
  | .ptr o v i => .val (.ptr o v i) H
  | .iface t v => .val (.iface t v) H
  | .fn (.func f) l c => .val (.fn (.func f) l c) H
  | .map o => .val (.map o) H
  | _ => .no

noncomputable def convF (P : Program) (src dst : TypeId) (x : Operand) : OpF :=
  match P.underlying src, P.underlying dst with
  | some _, some (.int k) => unary1 x fun H a => match a with
    | .int _ n => .val (.int k (wrapA k n)) H
    | _ => .no
  | some (.slice e), some .string => match P.underlying e with
    | some (.int .u8) => unary1 x fun H a => match a with
      | .nilSl => .val (.str 0 0) H
      | .sl o v i len 1 _ => match readAt H o v i len with
        | some l => match bytesA l with
          | some n => .val (.str len n) H
          | none => .no
        | none => .no
      | _ => .no
    | _ => stuckF
  | some _, some .string => unary1 x fun H a => match a with
    | .str l n => .val (.str l n) H
    | _ => .no
  | some _, some (.slice e) => match P.underlying e, sizeT P e with
    | some (.int .u8), some 1 => unary1 x fun H a => match a with
      | .str len n => match newObj H ((unpackL len n).map fun (b : Nat) => AV.int .u8 (Int.ofNat b)) with
        | some (o, H') => .val (.sl o 0 0 len 1 none) H'
        | none => .no
      | _ => .no
    | _, _ => stuckF
  | _, _ => stuckF
where
  bytesA : List AV → Option Nat
    | [] => some 0
    | .int .u8 (.ofNat b) :: l => if Nat.blt b 256 then match bytesA l with
      | some n => some (b + 256 * n)
      | none => none
      else none
    | _ => none

noncomputable def mkIfaceF (P : Program) (t : TypeId) (x : Operand) : OpF :=
  match P.underlying t with
  | some (.interface _) => stuckF
  | some _ => unary1 x fun H a => .val (.iface t a) H
  | none => stuckF

noncomputable def mkFuncF (f : Fn) (first cap : Array Operand) : OpF :=
  ⟨fun E H => match (opds first.toList).run E with
    | some l => match (opds cap.toList).run E with
      | some r => .val (.fn f l r) H
      | none => .no
    | none => .no⟩

noncomputable def pushMap (H : Heap) : OR := .val (.map H.next) (H.push (.map [] 0))
noncomputable def mkMapF (P : Program) (t : TypeId) (r : Option Operand) : OpF :=
  match r with
  | none => ⟨fun _ H => pushMap H⟩
  | some x => match P.underlying t with
    | some (.map _ _) => unary1 x fun H a => match a with
      | .int _ _ => pushMap H
      | _ => .no
    | _ => stuckF

noncomputable def mkSliceF (P : Program) (t : TypeId) (l c : Operand) : OpF :=
  match P.underlying t with
  | some (.slice elem) => match P.info? elem with
    | none => stuckF
    | some i => match zeroT P elem with
      | none => stuckF
      | some z => if 0 < i.size ∧ i.bytes ≤ 2 ^ 16 then binary2 l c fun H a b => match a, b with
        | .int .i64 (.ofNat l), .int .i64 (.ofNat c) => match Nat.ble l c with
          | true => match Nat.ble c 1048576 with
            | true => match newObj H (repeatL z c) with
              | some (o, H') => .val (.sl o 0 0 l i.size (some c)) H'
              | none => .no
            | false => .no
          | false => .no
        | _, _ => .no
        else stuckF
  | _ => stuckF

structure OptF where run : Tr AV → Option (Option Nat)
/-- A slice's bound: absent, or a number from 0 on. -/
noncomputable def optF : Option Operand → OptF
  | none => ⟨fun _ => some none⟩
  | some x => ⟨fun E => match (opd x).run E with
    | some (.int _ (.ofNat n)) => some (some n)
    | _ => none⟩

noncomputable def cutSl (l h m o v i esz : Nat) : AV :=
  match Nat.beq l m with
  | true => match Nat.beq l 0 with
    | true => .sl o v i 0 esz (some 0)
    | false => .emp
  | false => .sl o v (Nat.add i (Nat.mul l esz)) (Nat.sub h l) esz (some (Nat.sub m l))
noncomputable def sliceSl' (l h most : Nat) (mx : Option Nat) (o v i esz : Nat) (room : Option Nat) : Option AV :=
  match Nat.ble l h with
  | false => none
  | true => match Nat.ble h most with
    | false => none
    | true => match mx with
      | some m => match Nat.ble h m with
        | false => none
        | true => match Nat.ble m most with
          | false => none
          | true => some (cutSl l h m o v i esz)
      | none => match room with
        | some r => some (cutSl l h r o v i esz)
        | none => match Nat.beq l 0 with
          | true => some (.sl o v i h esz none)
          | false => match Nat.beq l h with
            | true => some .emp
            | false => some (.sl o v (Nat.add i (Nat.mul l esz)) (Nat.sub h l) esz none)
noncomputable def sliceSl (size : Nat) (lo hi mx : Option Nat) (o v i len esz : Nat) (room : Option Nat) : Option AV :=
  match Nat.beq esz size with
  | false => none
  | true => sliceSl' (lo.getD 0) (hi.getD len) (room.getD len) mx o v i esz room

noncomputable def sliceF (P : Program) (t : TypeId) (x : Operand) (lo hi mx : Option Operand) : OpF :=
  match P.underlying t with
  | some .string => match mx with
    | some _ => stuckF
    | none => ⟨fun E H => match (opd x).run E, (optF lo).run E, (optF hi).run E with
      | some (.str len n), some lo, some hi =>
        let l := lo.getD 0
        let h := hi.getD len
        match Nat.ble l h with
        | true => match Nat.ble h len with
          | true => .val (.str (Nat.sub h l) (Nat.mod (Nat.div n (Nat.pow 256 l)) (Nat.pow 256 (Nat.sub h l)))) H
          | false => .no
        | false => .no
      | _, _, _ => .no⟩
  | some (.slice elem) => if mx.isSome && hi.isNone then stuckF else match sizeT P elem with
    | none => stuckF
    | some size => ⟨fun E H => match (opd x).run E, (optF lo).run E, (optF hi).run E, (optF mx).run E with
      | some (.sl o v i len esz room), some lo, some hi, some mx => ret1 H (sliceSl size lo hi mx o v i len esz room)
      | some .nilSl, some lo, some hi, some none => match Nat.beq (Nat.add (lo.getD 0) (hi.getD 0)) 0 with
        | true => .val .nilSl H
        | false => .no
      | some .emp, some lo, some hi, some none => match Nat.beq (Nat.add (lo.getD 0) (hi.getD 0)) 0 with
        | true => .val .emp H
        | false => .no
      | _, _, _, _ => .no⟩
  | some (.array n elem) => if mx.isSome && hi.isNone then stuckF else match sizeT P elem with
    | none => stuckF
    | some size => ⟨fun E H => match (opd x).run E, (optF lo).run E, (optF hi).run E, (optF mx).run E with
      | some (.ptr o v i), some lo, some hi, some mx => match H.get o with
        | some (.cells _ clen ver false) => match Nat.beq v ver with
          | true => match Nat.ble (Nat.add i (Nat.mul n size)) clen with
            | true => ret1 H (sliceSl size lo hi mx o v i n size (some n))
            | false => .no
          | false => .no
        | _ => .no
      | _, _, _, _ => .no⟩
  | _ => stuckF

noncomputable def fieldAddrF (P : Program) (s : TypeId) (x : Operand) (f : Nat) : OpF :=
  match P.underlying s with
  | some (.struct fields) => match fields[f]? with
    | none => stuckF
    | some fd => match sizeT P fd.type with
      | none => stuckF
      | some 0 => stuckF
      | some _ => let off := fd.offset; unary1 x fun H a => match a with
        | .ptr o v i => .val (.ptr o v (Nat.add i off)) H
        | _ => .no
  | _ => stuckF

noncomputable def fieldF (P : Program) (t : TypeId) (x : Operand) (f : Nat) : OpF :=
  match P.underlying t with
  | some (.struct fields) => match fields[f]? with
    | none => stuckF
    | some fd => match aggT P fd.type, sizeT P fd.type with
      | some g, some n => let off := fd.offset; unary1 x fun H a => match a with
        | .agg l => ret1 H (partA g n l off)
        | _ => .no
      | _, _ => stuckF
  | _ => stuckF

noncomputable def indexAddrF (P : Program) (t : TypeId) (x ix : Operand) : OpF :=
  match P.underlying t with
  | some (.slice elem) => match sizeT P elem with
    | none => stuckF
    | some size => binary2 x ix fun H a b => match a, b with
      | .sl o v i len esz _, .int _ (.ofNat n) => match Nat.blt n len with
        | true => match Nat.beq esz size with
          | true => .val (.ptr o v (Nat.add i (Nat.mul n esz))) H
          | false => .no
        | false => .no
      | _, _ => .no
  | some (.array len elem) => match sizeT P elem with
    | none => stuckF
    | some size => binary2 x ix fun H a b => match a, b with
      | .ptr o v i, .int _ (.ofNat n) => match Nat.blt n len with
        | true => .val (.ptr o v (Nat.add i (Nat.mul n size))) H
        | false => .no
      | _, _ => .no
  | _ => stuckF

noncomputable def indexF (P : Program) (t : TypeId) (x ix : Operand) : OpF :=
  match P.underlying t with
  | some .string => binary2 x ix fun H a b => match a, b with
    | .str len n, .int _ (.ofNat i) => match Nat.blt i len with
      | true => .val (.int .u8 (Int.ofNat (Nat.mod (Nat.div n (Nat.pow 256 i)) 256))) H
      | false => .no
    | _, _ => .no
  | some (.array len elem) => match aggT P elem, sizeT P elem with
    | some g, some size => binary2 x ix fun H a b => match a, b with
      | .agg l, .int _ (.ofNat n) => match Nat.blt n len with
        | true => ret1 H (partA g size l (Nat.mul n size))
        | false => .no
      | _, _ => .no
    | _, _ => stuckF
  | _ => stuckF

/-! maps: keys are numbers, texts or bools -/
noncomputable def keyEq (d : TypeDesc) (a b : AV) : Option Bool := match d, a, b with
  | .int _, .int k a, .int k' b => match kindEq k k' with
    | true => some (eqI a b)
    | false => none
  | .string, .str la a, .str lb b => some (Nat.beq la lb && Nat.beq a b)
  | .bool, .bool a, .bool b => some (a == b)
  | _, _, _ => none
noncomputable def keyT (P : Program) (t : TypeId) : Option TypeDesc := match P.underlying t with
  | some .bool => some .bool
  | some (.int k) => some (.int k)
  | some .string => some .string
  | _ => none
noncomputable def findA (d : TypeDesc) (k : AV) : List (AV × AV × Nat) → Option (Option AV)
  | [] => some none
  | (k', v, _) :: l => match keyEq d k k' with
    | some true => some (some v)
    | some false => findA d k l
    | none => none
noncomputable def setMapA (d : TypeDesc) (k v : AV) (clock : Nat) : List (AV × AV × Nat) → Option (List (AV × AV × Nat) × Bool)
  | [] => some ([(k, v, clock)], true)
  | (k', v', b) :: l => match keyEq d k k' with
    | some true => some ((k, v, b) :: l, false)
    | some false => match setMapA d k v clock l with
      | some (r, n) => some ((k', v', b) :: r, n)
      | none => none
    | none => none
noncomputable def delMapA (d : TypeDesc) (k : AV) : List (AV × AV × Nat) → Option (List (AV × AV × Nat))
  | [] => some []
  | (k', v', b) :: l => match keyEq d k k' with
    | some true => some l
    | some false => match delMapA d k l with
      | some r => some ((k', v', b) :: r)
      | none => none
    | none => none
noncomputable def mapOf (H : Heap) (a : AV) : Option (List (AV × AV × Nat)) := match a with
  | .nilMap => some []
  | .map o => match H.get o with
    | some (.map es _) => some es
    | _ => none
  | _ => none

noncomputable def lookupF (P : Program) (t : TypeId) (x ix : Operand) (ok : Bool) : OpF :=
  match P.underlying t with
  | some (.map key elem) => match keyT P key, zeroV P elem with
    | some d, some z => binary2 x ix fun H a b => match mapOf H a with
      | none => .no
      | some es => match findA d b es with
        | some (some v) => .val (if ok then .tup [v, .bool true] else v) H
        | some none => .val (if ok then .tup [z, .bool false] else z) H
        | none => .no
    | _, _ => stuckF
  | _ => stuckF

noncomputable def mapUpdateF (P : Program) (t : TypeId) (m k x : Operand) : OpF :=
  match P.underlying t with
  | some (.map key _) => match keyT P key with
    | some d => ⟨fun E H => match (opd m).run E, (opd k).run E, (opd x).run E with
      | some (.map o), some k, some v => match H.get o with
        | some (.map es clock) => match setMapA d k v clock es with
          | some (es', true) => .val undefA (H.put o (.map es' (Nat.add clock 1)))
          | some (es', false) => .val undefA (H.put o (.map es' clock))
          | none => .no
        | _ => .no
      | _, _, _ => .no⟩
    | none => stuckF
  | _ => stuckF

noncomputable def rangeF (P : Program) (t : TypeId) (x : Operand) : OpF :=
  match P.underlying t with
  | some .string => unary1 x fun H a => match a with
    | .str len n => .val (.ptr H.next 0 0) (H.push (.iter len n 0))
    | _ => .no
  | _ => stuckF
noncomputable def nextF (x : Operand) (isString : Bool) : OpF :=
  if isString then unary1 x fun H a => match a with
    | .ptr o 0 0 => match H.get o with
      | some (.iter len n pos) => match Nat.blt pos len with
        | true => match Nat.blt (Nat.mod (Nat.div n (Nat.pow 256 pos)) 256) 128 with
          | true => .val (.tup [.bool true, .int .i64 (Int.ofNat pos), .int .i32 (Int.ofNat (Nat.mod (Nat.div n (Nat.pow 256 pos)) 256))]) (H.put o (.iter len n (Nat.add pos 1)))
          | false => .no
        | false => .val (.tup [.bool false]) H
      | _ => .no
    | _ => .no
  else stuckF

noncomputable def assertF (P : Program) (x : Operand) (asserted : TypeId) (ok : Bool) : OpF :=
  match P.underlying asserted with
  | some (.interface _) => stuckF
  | some _ => match zeroV P asserted with
    | none => stuckF
    | some z => unary1 x fun H a => match a with
      | .nilIf => if ok then .val (.tup [z, .bool false]) H else .no
      | .iface t v => match Nat.beq t asserted with
        | true => .val (if ok then .tup [v, .bool true] else v) H
        | false => if ok then .val (.tup [z, .bool false]) H else .no
      | _ => .no
  | none => stuckF

noncomputable def extractF (x : Operand) (i : Nat) : OpF := unary1 x fun H a => match a with
  | .tup l => ret1 H l[i]?
  | _ => .no

/-! builtins -/
noncomputable def lenF (P : Program) (t : TypeId) (x : Operand) : OpF :=
  match P.underlying t with
  | some .string => unary1 x fun H a => match a with
    | .str l _ => .val (.int .i64 (Int.ofNat l)) H
    | _ => .no
  | some (.slice _) => unary1 x fun H a => match a with
    | .sl _ _ _ len _ _ => .val (.int .i64 (Int.ofNat len)) H
    | .nilSl => .val (.int .i64 0) H
    | .emp => .val (.int .i64 0) H
    | _ => .no
  | some (.map _ _) => unary1 x fun H a => match a with
    | .nilMap => .val (.int .i64 0) H
    | .map o => match H.get o with
      | some (.map es _) => .val (.int .i64 (Int.ofNat es.length)) H
      | _ => .no
    | _ => .no
  | some (.array n _) => unary1 x fun H _ => .val (.int .i64 (Int.ofNat n)) H
  | _ => stuckF
noncomputable def capF (P : Program) (t : TypeId) (x : Operand) : OpF :=
  match P.underlying t with
  | some (.slice _) => unary1 x fun H a => match a with
    | .nilSl => .val (.int .i64 0) H
    | .sl _ _ _ _ _ (some r) => .val (.int .i64 (Int.ofNat r)) H
    | _ => .no
  | _ => stuckF

noncomputable def maxA (mx : Bool) : AV → AV → Option AV
  | .int k x, .int k' y => match kindEq k k' with
    | true => match mx with
      | true => match ltI x y with
        | true => some (.int k y)
        | false => some (.int k x)
      | false => match ltI y x with
        | true => some (.int k y)
        | false => some (.int k x)
    | false => none
  | _, _ => none
noncomputable def foldMax (mx : Bool) : AV → List AV → Option AV
  | a, [] => some a
  | a, b :: l => match maxA mx a b with
    | some c => foldMax mx c l
    | none => none
noncomputable def maxF (mx : Bool) (args : List Operand) : OpF := ⟨fun E H => match (opds args).run E with
  | some (.int k n :: l) => ret1 H (foldMax mx (.int k n) l)
  | _ => .no⟩

/-- The elements that are appended or copied: how many, their cells. -/
noncomputable def takeA (H : Heap) (size : Nat) : AV → Option (Nat × List AV)
  | .nilSl => some (0, [])
  | .emp => some (0, [])
  | .sl o v i len esz _ => match Nat.beq esz size with
    | true => match readAt H o v i (Nat.mul len size) with
      | some l => some (len, l)
      | none => none
    | false => none
  | .str len n => if Nat.beq size 1 then some (len, (unpackL len n).map fun (b : Nat) => AV.int .u8 (Int.ofNat b)) else none
  | _ => none

noncomputable def growA (H : Heap) (n size : Nat) (l : List AV) : OR :=
  match newObj H l with
  | some (o, H') => .val (.sl o 0 0 n size none) H'
  | none => .no

noncomputable def appendA (H : Heap) (size : Nat) (s : AV) (n : Nat) (new : List AV) : OR :=
  match Nat.beq n 0 with
  | true => match s with
    | .nilSl => .val .nilSl H
    | .emp => .val .emp H
    | .sl o v i len esz room => .val (.sl o v i len esz room) H
    | _ => .no
  | false => match s with
    | .nilSl => growA H n size new
    | .sl o v i len esz room => match Nat.beq esz size && Nat.ble len lim with
      | false => .no
      | true => match room with
        | some r => match Nat.ble (Nat.add len n) r with
          | true => match writeAt H o v (Nat.add i (Nat.mul len esz)) new with
            | some H' => .val (.sl o v i (Nat.add len n) esz (some r)) H'
            | none => .no
          | false => match readAt H o v i (Nat.mul len size) with
            | some old => growA H (Nat.add len n) size (old ++ new)
            | none => .no
        | none => match H.get o with
          | some (.cells c clen ver false) => match Nat.beq v ver with
            | false => .no
            | true => match Nat.ble (Nat.add i (Nat.mul (Nat.add len n) esz)) clen with
              | true => match writeAt H o v (Nat.add i (Nat.mul len esz)) new with
                | some H' => .val (.sl o v i (Nat.add len n) esz none) H'
                | none => .no
              | false => match Nat.beq i 0 with
                | false => .no
                | true => match Nat.beq (Nat.mul len esz) clen with
                  | false => .no
                  | true => .val (.sl o (Nat.add ver 1) 0 (Nat.add len n) esz none) (H.put o (.cells (ofListFrom new clen c) (Nat.add clen new.length) (Nat.add ver 1) false))
          | _ => .no
    | _ => .no

noncomputable def appendZ (P : Program) (elem : TypeId) (s x : Operand) : OpF :=
  match P.info? elem, zeroT P elem with
  | some i, some z => if 0 < i.size ∧ i.bytes ≤ 65536 then binary2 s x fun H a b => match b with
      | .int .i64 (.ofNat n) => match Nat.ble n 1048576 with
        | true => appendA H i.size a n (repeatL z n)
        | false => .no
      | _ => .no
    else stuckF
  | _, _ => stuckF
noncomputable def appendG (P : Program) (elem : TypeId) (s x : Operand) : OpF :=
  match P.info? elem, zeroT P elem with
  | some i, some _ => if 0 < i.size ∧ i.bytes ≤ 65536 then binary2 s x fun H a b => match takeA H i.size b with
      | some (n, l) => match Nat.ble n 1048576 with
        | true => appendA H i.size a n l
        | false => .no
      | none => .no
    else stuckF
  | _, _ => stuckF
noncomputable def appendF (P : Program) (ts : Array TypeId) (args : Array Operand) : OpF :=
  match ts.toList, args.toList with
  | [st, xt], [s, x] => match P.underlying st, P.underlying xt with
    | some (.slice elem), some (.int _) => appendZ P elem s x
    | some (.slice elem), some (.slice _) => appendG P elem s x
    | some (.slice elem), some .string => appendG P elem s x
    | _, _ => stuckF
  | _, _ => stuckF

noncomputable def copyF (P : Program) (ts : Array TypeId) (args : Array Operand) : OpF :=
  match ts.toList, args.toList with
  | [st, _], [d, x] => match P.underlying st with
    | some (.slice elem) => match sizeT P elem with
      | none => stuckF
      | some size => if 0 < size then binary2 d x fun H a b => match takeA H size b with
        | some (n, l) => match a with
          | .nilSl => .val (.int .i64 0) H
          | .emp => .val (.int .i64 0) H
          | .sl o v i len esz _ => match Nat.beq esz size with
            | true => match writeAt H o v i (l.take (Nat.mul (minN n len) size)) with
              | some H' => .val (.int .i64 (Int.ofNat (minN n len))) H'
              | none => .no
            | false => .no
          | _ => .no
        | none => .no
        else stuckF
    | _ => stuckF
  | _, _ => stuckF

noncomputable def clearF (P : Program) (ts : Array TypeId) (args : Array Operand) : OpF :=
  match ts.toList, args.toList with
  | [st], [x] => match P.underlying st with
    | some (.slice elem) => match sizeT P elem, zeroT P elem with
      | some size, some z => if 0 < size then unary1 x fun H a => match a with
        | .nilSl => .val undefA H
        | .emp => .val undefA H
        | .sl o v i len esz _ => match Nat.beq esz size with
          | true => match writeAt H o v i (repeatL z len) with
            | some H' => .val undefA H'
            | none => .no
          | false => .no
        | _ => .no
        else stuckF
      | _, _ => stuckF
    | _ => stuckF
  | _, _ => stuckF

noncomputable def deleteF (P : Program) (ts : Array TypeId) (args : Array Operand) : OpF :=
  match ts.toList, args.toList with
  | [mt, _], [m, k] => match P.underlying mt with
    | some (.map key _) => match keyT P key with
      | some d => binary2 m k fun H a b => match a with
        | .map o => match H.get o with
          | some (.map es clock) => match delMapA d b es with
            | some es' => .val undefA (H.put o (.map es' clock))
            | none => .no
          | _ => .no
        | _ => .no
      | none => stuckF
    | _ => stuckF
  | _, _ => stuckF

/-! calls -/
noncomputable def callable (P : Program) (f : Nat) : Bool := match P.funcs[f]? with
  | some fn => fn.name != "runtime.NumGoroutine" && fn.body.isSome
  | none => false

/-- Which method an interface value's dynamic type has under a name: just the receivers that are handed on as they are. -/
noncomputable def methodA (P : Program) (t : TypeId) (name : String) : Option Nat := match P.info? t with
  | some i => match i.methods.find? (·.name == name) with
    | some m => if m.path.isEmpty then match m.func, P.underlying t with
      | some (f, true), some (.pointer _) => some f
      | some (_, false), some (.pointer _) => none
      | some (f, false), some _ => some f
      | _, _ => none
      else none
    | none => none
  | none => none

noncomputable def callFn (P : Program) (f : AV) (args : List AV) : OR := match f with
  | .fn (.func f) first cap => if callable P f then .call (.fn f) (first ++ args ++ cap) else .no
  | .fn (.yield l) [] _ => .call (.yield l) args
  | _ => .no

/-- 'maps.clone', which has no body. -/
noncomputable def isClone (P : Program) (f : Nat) : Bool := match P.funcs[f]? with
  | some fn => fn.name == "maps.clone" && fn.origin == "" && fn.body.isNone
  | none => false
noncomputable def cloneA (H : Heap) : List AV → OR
  | [.iface t (.map o)] => match H.get o with
    | some (.map es ck) => .val (.iface t (.map H.next)) (H.push (.map es ck))
    | _ => .no
  | _ => .no
noncomputable def callVal (P : Program) (H : Heap) (g : AV) (args : List AV) : OR := match g with
  | .fn (.func f) [] [] => match isClone P f with
    | true => cloneA H args
    | false => callFn P g args
  | _ => callFn P g args

noncomputable def callF (P : Program) (c : Call) : OpF :=
  match c.callee with
  | .builtin b => match b with
    | .len => match c.argTypes.toList, c.args.toList with
      | [t], [x] => lenF P t x
      | _, _ => stuckF
    | .cap => match c.argTypes.toList, c.args.toList with
      | [t], [x] => capF P t x
      | _, _ => stuckF
    | .max => maxF true c.args.toList
    | .min => maxF false c.args.toList
    | .append => appendF P c.argTypes c.args
    | .copy => copyF P c.argTypes c.args
    | .clear => clearF P c.argTypes c.args
    | .delete => deleteF P c.argTypes c.args
    | _ => stuckF
  | .value f => ⟨fun E H => match (opd f).run E with
    | some g => match (opds c.args.toList).run E with
      | some l => callVal P H g l
      | none => .no
    | none => .no⟩
  | .invoke r name => ⟨fun E _ => match (opd r).run E with
    | some (.iface t v) => match methodA P t name with
      | some f => match (opds c.args.toList).run E with
        | some l => if callable P f then .call (.fn f) (v :: l) else .no
        | none => .no
      | none => .no
    | _ => .no⟩

noncomputable def compOp (P : Program) (o : Op) : OpF :=
  match o with
  | .move x | .assign x => unary1 x fun H a => .val a H
  | .pick c a b => ⟨fun E H => match (opd c).run E with
    | some (.bool true) => ret1 H ((opd a).run E)
    | some (.bool false) => ret1 H ((opd b).run E)
    | _ => .no⟩
  | .alloc t => match zeroT P t with
    | some l => ⟨fun _ H => newVarA H l⟩
    | none => stuckF
  | .box _ x => unary1 x fun H a => match a.cells with
    | some l => newVarA H l
    | none => .no
  | .build t parts => buildF P t parts
  | .buildSlice t len parts => buildSliceF P t len parts
  | .load t a => loadF P t a
  | .store t a x => storeF P t a x
  | .nilCheck x => unary1 x nilCheckA
  | .binOp op t x y _ => let g := isConstO x || isConstO y; binary2 x y fun H a b => ret1 H (binA P op g t a b)
  | .unOp op _ x => unary1 x fun H a => ret1 H (unA op a)
  | .convert s d x => convF P s d x
  | .makeInterface t x => mkIfaceF P t x
  | .makeFunc f first cap => match f with
    | .yield _ => stuckF
    | f => mkFuncF f first cap
  | .makeMap t r => mkMapF P t r
  | .makeSlice t l c => mkSliceF P t l c
  | .slice t x lo hi mx => sliceF P t x lo hi mx
  | .fieldAddr s x f => fieldAddrF P s x f
  | .field t x f => fieldF P t x f
  | .indexAddr t x i => indexAddrF P t x i
  | .index t x i => indexF P t x i
  | .lookup t x i ok => lookupF P t x i ok
  | .mapUpdate t m k x | .insert t m k x => mapUpdateF P t m k x
  | .range t x => rangeF P t x
  | .next it s => nextF it s
  | .typeAssert x _ t ok => assertF P x t ok
  | .extract t i => extractF t i
  | .call c => callF P c
  | _ => stuckF

/-! ### Regions -/
inductive RV where
  | no
  | ok (v : AV) (H : Heap)
abbrev CallT := Tgt → List AV → Heap → RV

inductive OE where
  | no
  | ok (E : Tr AV) (H : Heap)
structure SeqF where run : CallT → Tr AV → Heap → OE

structure PutF where run : AV → Tr AV → Tr AV
/-- Where an operation's value goes ('none': nowhere it may not). -/
noncomputable def putF (n : Nat) (d : Option Tmp) : Option PutF :=
  match d with
  | none => some ⟨fun _ E => E⟩
  | some d => if d < n then some ⟨fun a E => setP a (pathOf d) E⟩ else none

structure GuardF where run : Tr AV → Bool
noncomputable def guardF (ops : Array Oper) (o : Oper) : GuardF :=
  match o.guard with
  | none => ⟨fun _ => true⟩
  | some (j, want) => match (ops[j]?).bind (·.dst) with
    | none => ⟨fun _ => false⟩
    | some d => if d ≤ lim then ⟨fun E => match getP (pathOf d) E with
      | some (.bool b) => match b with
        | true => want
        | false => !want
      | _ => false⟩ else ⟨fun _ => false⟩

/-- One operation: its guard, itself, where its value goes. -/
noncomputable def compOper (P : Program) (n : Nat) (ops : Array Oper) (o : Oper) : SeqF :=
  match putF n o.dst with
  | none => ⟨fun _ _ _ => .no⟩
  | some p => ⟨fun c E H => Bool.rec (.ok (p.run undefA E) H)
      (OR.rec .no (fun v H' => .ok (p.run v E) H') (fun t args => RV.rec .no (fun v H' => .ok (p.run v E) H') (c t args H)) ((compOp P o.op).run E H))
      ((guardF ops o).run E)⟩

noncomputable def compOps (P : Program) (n : Nat) (ops : Array Oper) : List Oper → SeqF
  | [] => ⟨fun _ E H => .ok E H⟩
  | o :: l => ⟨fun c E H => OE.rec .no (fun E' H' => (compOps P n ops l).run c E' H') ((compOper P n ops o).run c E H)⟩

/-! ### Regions that draw their order -/
/-- What an operation is, apart from the others: it looks at no object; it just reads; it changes something; it just makes an object. -/
inductive Cls where
  | quiet | rd | ch | al

noncomputable def isMapT (P : Program) (t : TypeId) : Bool := match P.underlying t with
  | some (.map _ _) => true
  | _ => false
noncomputable def isArrT (P : Program) (t : TypeId) : Bool := match P.underlying t with
  | some (.array _ _) => true
  | _ => false
noncomputable def isSlT (P : Program) (t : TypeId) : Bool := match P.underlying t with
  | some (.slice _) => true
  | _ => false

noncomputable def clsCall (P : Program) (c : Call) : Cls := match c.callee with
  | .builtin .len => match c.argTypes.toList with
    | [t] => if isMapT P t then .rd else .quiet
    | _ => .ch
  | .builtin .cap | .builtin .max | .builtin .min => .quiet
  | _ => .ch
noncomputable def cls (P : Program) (o : Op) : Cls :=
  match o with
  | .move _ | .assign _ | .pick _ _ _ | .build _ _ | .nilCheck _ | .binOp _ _ _ _ _ | .unOp _ _ _ | .makeInterface _ _ | .makeFunc _ _ _ | .fieldAddr _ _ _
  | .field _ _ _ | .indexAddr _ _ _ | .index _ _ _ | .typeAssert _ _ _ _ | .extract _ _ => .quiet
  | .slice t _ _ _ _ => if isArrT P t then .rd else .quiet
  | .convert s d _ => if isSlT P d then .ch else if isSlT P s then .rd else .quiet
  | .load _ _ | .lookup _ _ _ _ => .rd
  | .call c => clsCall P c
  | .alloc _ | .box _ _ | .buildSlice _ _ _ | .makeSlice _ _ _ | .makeMap _ _ => .al
  | _ => .ch

/-- Of each operation, a mask of those that come before it in whatever order its edges allow. -/
noncomputable def maskOf (acc : List Nat) : List Edge → Nat
  | [] => 0
  | e :: l => match Region.binds .any e with
    | true => Nat.lor (Nat.lor (2 ^ e.on) (acc.getD e.on 0)) (maskOf acc l)
    | false => maskOf acc l
noncomputable def bitsOf : List Nat → Nat
  | [] => 0
  | t :: l => Nat.lor (2 ^ t) (bitsOf l)

noncomputable def tmpsOf : List Operand → List Nat
  | [] => []
  | .tmp t :: l => t :: tmpsOf l
  | _ :: l => tmpsOf l
noncomputable def looks (ops : Array Oper) (o : Oper) : List Nat :=
  tmpsOf o.op.operands.toList ++ (match o.guard with
    | some (j, _) => ((ops[j]?).bind (·.dst)).toList
    | none => [])

structure DOp where
  o : Oper
  i : Nat
  m : Nat
  lm : Nat
  c : Cls
noncomputable def dops (P : Program) (ops : Array Oper) : List Oper → List Nat → Nat → List DOp
  | [], _, _ => []
  | o :: l, acc, i => ⟨o, i, maskOf acc o.after.toList, bitsOf (looks ops o), cls P o.op⟩ :: dops P ops l (acc ++ [maskOf acc o.after.toList]) (i + 1)

noncomputable def isCh (x : DOp) : Bool := match x.c with
  | .ch => true
  | _ => false
noncomputable def isRd (x : DOp) : Bool := match x.c with
  | .rd => true
  | .al => true
  | _ => false
noncomputable def isQuiet (x : DOp) : Bool := match x.c with
  | .quiet => true
  | _ => false

/-- Where y writes what x names, y is before x or behind it. -/
noncomputable def lookOk (x y : DOp) : Bool := match y.o.dst with
  | none => true
  | some d => match Nat.testBit x.lm d with
    | false => true
    | true => match Nat.beq x.i y.i with
      | true => !(isRd x)
      | false => match Nat.testBit x.m y.i with
        | true => true
        | false => match Nat.testBit y.m x.i with
          | true => !(isRd x)
          | false => false
noncomputable def allB {α : Type} (f : α → Bool) : List α → Bool
  | [] => true
  | a :: l => match f a with
    | true => allB f l
    | false => false
noncomputable def looksOk (L : List DOp) : Bool := allB (fun x => allB (lookOk x) L) L
noncomputable def dstsOk : List DOp → Nat → Bool
  | [], _ => true
  | x :: l, seen => match x.o.dst with
    | none => dstsOk l seen
    | some d => match Nat.testBit seen d with
      | true => false
      | false => dstsOk l (Nat.lor (2 ^ d) seen)
/-- One order that the masks allow, in which all that is not quiet stands behind whatever of the chain is ahead of it in every order. -/
noncomputable def topo : List DOp → Nat → Nat → Option Nat
  | [], seen, _ => some seen
  | x :: l, seen, chs => match Nat.beq (Nat.land x.m seen) x.m with
    | false => none
    | true => match Nat.testBit seen x.i with
      | true => none
      | false => match isQuiet x with
        | true => topo l (Nat.lor (2 ^ x.i) seen) chs
        | false => match Nat.beq (Nat.land chs x.m) chs with
          | false => none
          | true => match isCh x with
            | true => topo l (Nat.lor (2 ^ x.i) seen) (Nat.lor (2 ^ x.i) chs)
            | false => topo l (Nat.lor (2 ^ x.i) seen) chs

noncomputable def filterB {α : Type} (f : α → Bool) : List α → List α
  | [] => []
  | a :: l => match f a with
    | true => a :: filterB f l
    | false => filterB f l
noncomputable def rank (x : DOp) : List DOp → Nat
  | [] => 0
  | c :: l => match Nat.testBit x.m c.i with
    | true => Nat.succ (rank x l)
    | false => rank x l
noncomputable def phase (L chain : List DOp) (p : Nat) : List DOp := filterB (fun x => match isCh x with
  | true => false
  | false => Nat.beq (rank x chain) p) L
noncomputable def ordFrom (L chain : List DOp) : List DOp → Nat → List DOp
  | [], _ => []
  | c :: rest, p => c :: (phase L chain p ++ ordFrom L chain rest (p + 1))
noncomputable def ordOf (L chain : List DOp) : List DOp := phase L chain 0 ++ ordFrom L chain chain 1

noncomputable def eqL {α : Type} (f : α → α → Bool) : List α → List α → Bool
  | [], [] => true
  | a :: l, b :: r => match f a b with
    | true => eqL f l r
    | false => false
  | _, _ => false
noncomputable def eqAV : Nat → AV → AV → Bool
  | 0, _, _ => false
  | n + 1, a, b => match a, b with
    | .bool x, .bool y => x == y
    | .int k x, .int k' y => kindEq k k' && eqI x y
    | .str l x, .str m y => Nat.beq l m && Nat.beq x y
    | .nilPtr, .nilPtr => true
    | .ptr o v i, .ptr o' v' i' => Nat.beq o o' && Nat.beq v v' && Nat.beq i i'
    | .nilSl, .nilSl => true
    | .sl o v i l e r, .sl o' v' i' l' e' r' => Nat.beq o o' && Nat.beq v v' && Nat.beq i i' && Nat.beq l l' && Nat.beq e e' && r == r'
    | .emp, .emp => true
    | .nilMap, .nilMap => true
    | .map o, .map o' => Nat.beq o o'
    | .nilFn, .nilFn => true
    | .fn (.func f) x y, .fn (.func g) x' y' => Nat.beq f g && eqL (eqAV n) x x' && eqL (eqAV n) y y'
    | .fn (.yield f) x y, .fn (.yield g) x' y' => Nat.beq f g && eqL (eqAV n) x x' && eqL (eqAV n) y y'
    | .nilIf, .nilIf => true
    | .iface t v, .iface t' v' => Nat.beq t t' && eqAV n v v'
    | .agg x, .agg y => eqL (eqAV n) x y
    | .tup x, .tup y => eqL (eqAV n) x y
    | _, _ => false

/-- The object that an operation has just made; its value with another object in its place. -/
noncomputable def idOf : AV → Option Nat
  | .ptr o _ _ => some o
  | .sl o _ _ _ _ _ => some o
  | .map o => some o
  | _ => none
noncomputable def reId (id : Nat) : AV → AV
  | .ptr _ v i => .ptr id v i
  | .sl _ v i l e r => .sl id v i l e r
  | .map _ => .map id
  | v => v
noncomputable def eqCells (c c' : Tr AV) (len : Nat) : Bool := match getCells c 0 len, getCells c' 0 len with
  | some l, some l' => eqL (eqAV 30) l l'
  | _, _ => false
noncomputable def eqObj : AObj → AObj → Bool
  | .cells c len ver ro, .cells c' len' ver' ro' => Nat.beq len len' && Nat.beq ver ver' && ro == ro' && eqCells c c' len
  | .map [] k, .map [] k' => Nat.beq k k'
  | _, _ => false
/-- Equal by reckoning, or (where a value is not known) by thought. -/
noncomputable def sameB {α : Type} (b : Bool) (x y : α) : Bool := match b with
  | true => true
  | false => @decide (x = y) (Classical.propDecidable _)
/-- Is what was made still what would be made now? -/
noncomputable def reMade (v v' : AV) (H H' : Heap) : Bool := match idOf v with
  | none => false
  | some id => match sameB (eqAV 30 v (reId id v')) v (reId id v') with
    | false => false
    | true => match H.get id, H'.get H.next with
      | some a, some b => sameB (eqObj a b) a b
      | _, _ => false

structure ChkF where run : Tr AV → Heap → Bool
/-- What was read ahead of an operation that need not come behind it is to be read behind it too. -/
noncomputable def recheck (P : Program) (ops : Array Oper) (x : DOp) : ChkF :=
  match x.o.dst with
  | none => ⟨fun _ _ => false⟩
  | some d => ⟨fun E H => match (guardF ops x.o).run E with
    | false => true
    | true => match getP (pathOf d) E with
      | none => false
      | some v => match (compOp P x.o.op).run E H with
        | .val v' H' => match x.c with
          | .al => reMade v v' H H'
          | _ => sameB (eqAV 30 v v') v v'
        | _ => false⟩
noncomputable def rechecks (P : Program) (ops : Array Oper) : List DOp → ChkF
  | [] => ⟨fun _ _ => true⟩
  | x :: l => ⟨fun E H => match (recheck P ops x).run E H with
    | true => (rechecks P ops l).run E H
    | false => false⟩

/-- The operations in one order; 'pend': what was read and may still be read later. -/
noncomputable def drawGo (P : Program) (n : Nat) (ops : Array Oper) : List DOp → List DOp → SeqF
  | [], _ => ⟨fun _ E H => .ok E H⟩
  | x :: l, pend => match x.c with
    | .quiet => ⟨fun k E H => OE.rec .no (fun E1 H1 => (drawGo P n ops l pend).run k E1 H1) ((compOper P n ops x.o).run k E H)⟩
    | .rd => ⟨fun k E H => OE.rec .no (fun E1 H1 => (drawGo P n ops l (x :: pend)).run k E1 H1) ((compOper P n ops x.o).run k E H)⟩
    | .al => ⟨fun k E H => OE.rec .no (fun E1 H1 => Bool.rec .no ((drawGo P n ops l (x :: pend)).run k E1 H1) ((rechecks P ops (x :: pend)).run E1 H1)) ((compOper P n ops x.o).run k E H)⟩
    | .ch =>
      let pend' := filterB (fun y => !(Nat.testBit x.m y.i)) pend
      ⟨fun k E H => OE.rec .no (fun E1 H1 => Bool.rec .no ((drawGo P n ops l pend').run k E1 H1) ((rechecks P ops pend').run E1 H1)) ((compOper P n ops x.o).run k E H)⟩

noncomputable def drawOk (n : Nat) (L ord : List DOp) : Bool := match topo ord 0 0 with
  | none => false
  | some s => match Nat.beq s (Nat.sub (2 ^ n) 1) with
    | false => false
    | true => match dstsOk L 0 with
      | false => false
      | true => looksOk L
noncomputable def compDraw (P : Program) (n : Nat) (ops : Array Oper) : SeqF :=
  let L := dops P ops ops.toList [] 0
  let chain := filterB isCh L
  let ord := ordOf L chain
  match drawOk ops.size L ord with
  | true => drawGo P n ops ord []
  | false => ⟨fun _ _ _ => .no⟩

/-! ### Code -/
inductive Ex where
  | normal
  | exit (id : Nat)
  | ret

inductive Res where
  | no
  | ok (x : Ex) (E : Tr AV) (D : List Nat) (H : Heap)
/-- A code's meaning: calls; fuel for loops; the loop whose round it is; temporaries, what is deferred, the heap. -/
structure CodeF where run : CallT → Nat → Option Nat → Tr AV → List Nat → Heap → Res

noncomputable def stuckC : CodeF := ⟨fun _ _ _ _ _ _ => .no⟩

noncomputable def loopA (f : Tr AV → List Nat → Heap → Res) : Nat → Tr AV → List Nat → Heap → Res
  | 0, _, _, _ => .no
  | m + 1, E, D, H => match f E D H with
    | .no => .no
    | .ok x E' D' H' => match x with
      | .normal => loopA f m E' D' H'
      | x => .ok x E' D' H'

noncomputable def enterLoopA (f n : Nat) (ps : Array Tmp) (assign body : Code) (ro : Option Nat) (E : Tr AV) (D : List Nat) (H : Heap) : Option (Nat × List Nat × Heap) :=
  match ro with
  | none => some (Nat.add H.next 1, H.next :: D, (H.push (.defd true)).push (.loop .ready none f n E ps assign body H.next))
  | some l => match H.get l with
    | some (.loop _ _ _ _ _ _ _ _ d) => some (H.next, D, H.push (.loop .ready none f n E ps assign body d))
    | _ => none

noncomputable def exOf : Code → Option Ex
  | .ret => some .ret
  | .exit id => some (.exit id)
  | _ => none

noncomputable def endLoopA (l : Nat) (H : Heap) : Option (Option Code × Heap) := match H.get l with
  | some (.loop st pend f n E ps a b d) => match st with
    | .busy => none
    | _ => some (pend, H.put l (.loop .exhausted pend f n E ps a b d))
  | _ => none

noncomputable def compCode (P : Program) (f n : Nat) : Code → CodeF
  | .skip => ⟨fun _ _ _ E D H => .ok .normal E D H⟩
  | .region _ ops draw =>
    let s := match draw with
      | true => compDraw P n ops
      | false => compOps P n ops ops.toList
    ⟨fun k _ _ E D H => match s.run k E H with
      | .no => .no
      | .ok E' H' => .ok .normal E' D H'⟩
  | .seq a b => ⟨fun k m ro E D H => Res.rec .no (fun x E' D' H' => Ex.rec ((compCode P f n b).run k m ro E' D' H') (fun id => .ok (.exit id) E' D' H') (.ok .ret E' D' H') x)
      ((compCode P f n a).run k m ro E D H)⟩
  | .cond c a b => ⟨fun k m ro E D H => match (opd c).run E with
    | some (.bool t) => match t with
      | true => (compCode P f n a).run k m ro E D H
      | false => (compCode P f n b).run k m ro E D H
    | _ => .no⟩
  | .block id c => ⟨fun k m ro E D H => match (compCode P f n c).run k m ro E D H with
    | .no => .no
    | .ok x E' D' H' => match x with
      | .exit id' => match Nat.beq id' id with
        | true => .ok .normal E' D' H'
        | false => .ok (.exit id') E' D' H'
      | x => .ok x E' D' H'⟩
  | .loop c => ⟨fun k m ro E D H => loopA ((compCode P f n c).run k m ro) m E D H⟩
  | .rangeFunc g ps a b => ⟨fun k _ ro E D H => match (opd g).run E with
    | none => .no
    | some gv => match enterLoopA f n ps a b ro E D H with
      | none => .no
      | some (l, D', H') => match callFn P gv [.fn (.yield l) [] []] with
        | .call (.fn g) args => match k (.fn g) args H' with
          | .no => .no
          | .ok _ H2 => match endLoopA l H2 with
            | none => .no
            | some (none, H3) => .ok .normal E D' H3
            | some (some c, H3) => match exOf c with
              | none => .no
              | some x => .ok x E D' H3
        | _ => .no⟩
  | .exit id => ⟨fun _ _ _ E D H => .ok (.exit id) E D H⟩
  | .scope c => ⟨fun k m ro E D H => (compCode P f n c).run k m ro E D H⟩
  | .label _ => ⟨fun _ _ _ E D H => .ok .normal E D H⟩
  | .ret => ⟨fun _ _ _ E D H => .ok .ret E D H⟩
  | _ => stuckC

/-! ### Calls -/
structure ResF where run : Tr AV → Heap → Option AV
noncomputable def resF (P : Program) (r : ResultVar) : ResF :=
  match r with
  | .tmp t => ⟨fun E _ => (opd (.tmp t)).run E⟩
  | .cell a t => match aggT P t, sizeT P t with
    | some true, some n => ⟨fun E H => match (opd (.tmp a)).run E with
      | some (.ptr o v i) => match readAt H o v i n with
        | some l => some (.agg l)
        | none => none
      | _ => none⟩
    | some false, some _ => ⟨fun E H => match (opd (.tmp a)).run E with
      | some (.ptr o v i) => match readAt H o v i 1 with
        | some [c] => some c
        | _ => none
      | _ => none⟩
    | _, _ => ⟨fun _ _ => none⟩
structure RessF where run : Tr AV → Heap → Option (List AV)
noncomputable def ressF (P : Program) : List ResultVar → RessF
  | [] => ⟨fun _ _ => some []⟩
  | r :: l => ⟨fun E H => match (resF P r).run E H with
    | none => none
    | some a => match (ressF P l).run E H with
      | none => none
      | some b => some (a :: b)⟩

noncomputable def takeDefs : List Nat → Heap → Option Heap
  | [], H => some H
  | d :: l, H => match H.get d with
    | some (.defd true) => takeDefs l (H.put d (.defd false))
    | _ => none

structure FunF where run : CallT → Nat → List AV → Heap → RV
noncomputable def compFn (P : Program) (f : Nat) : FunF :=
  match P.funcs[f]? with
  | none => ⟨fun _ _ _ _ => .no⟩
  | some fn => match fn.body with
    | none => ⟨fun _ _ _ _ => .no⟩
    | some body => if fn.ntmps ≤ lim then
      ⟨fun k m args H => match Nat.ble args.length fn.ntmps with
        | false => .no
        | true => match (compCode P f fn.ntmps body).run k m none (ofListFrom args 0 .e) [] H with
          | .no => .no
          | .ok x E D H' => match x with
            | .exit _ => .no
            | _ => match takeDefs D H' with
              | none => .no
              | some H2 => match (ressF P fn.results.toList).run E H2 with
                | some [v] => .ok v H2
                | some l => .ok (.tup l) H2
                | none => .no⟩
      else ⟨fun _ _ _ _ => .no⟩

noncomputable def setPs : List Tmp → List AV → Nat → Tr AV → Option (Tr AV)
  | [], [], _, E => some E
  | p :: ps, a :: as, n, E => match Nat.blt p n with
    | true => setPs ps as n (setP a (pathOf p) E)
    | false => none
  | _, _, _, _ => none

noncomputable def beginA (l : Nat) (H : Heap) : Option Heap := match H.get l with
  | some (.loop .ready pend f n E ps a b d) => some (H.put l (.loop .busy pend f n E ps a b d))
  | _ => none
noncomputable def endRoundA (l : Nat) (x : Ex) (H : Heap) : RV := match H.get l with
  | some (.loop _ _ f n E ps a b d) => match x with
    | .normal => .ok (.bool true) (H.put l (.loop .ready none f n E ps a b d))
    | .ret => .ok (.bool false) (H.put l (.loop .done (some .ret) f n E ps a b d))
    | .exit id => .ok (.bool false) (H.put l (.loop .done (some (.exit id)) f n E ps a b d))
  | _ => .no

noncomputable def callA (P : Program) (O : CallT) : Nat → CallT
  | 0 => fun _ _ _ => .no
  | m + 1 => fun t args H => match t with
    | .fn f => match O (.fn f) args H with
      | .ok v H' => .ok v H'
      | .no => (compFn P f).run (callA P O m) m args H
    | .yield l => match H.get l with
      | some (.loop .ready none f n E ps a b _) => match setPs ps.toList args n E with
        | none => .no
        | some E1 => match (compCode P f n a).run (callA P O m) m (some l) E1 [] H with
          | .ok .normal E2 [] H2 => match beginA l H2 with
            | none => .no
            | some H2' => match (compCode P f n b).run (callA P O m) m (some l) E2 [] H2' with
              | .no => .no
              | .ok x _ D H3 => match D with
                | [] => endRoundA l x H3
                | _ => .no
          | _ => .no
      | _ => .no

/-- A closed run. -/
noncomputable def noO : CallT := fun _ _ _ => .no
noncomputable def runA (P : Program) (O : CallT) (m f : Nat) : Bool := match callA P O m (.fn f) [] ⟨.e, 0⟩ with
  | .ok (.bool true) _ => true
  | _ => false

end Go.Sv
