/- A logic over the evaluator: values (rows that nobody turns any more stand in them as they are), objects, what an operation does. The definitions alone. -/
import Derived.Test.YtlfffpmdofacjaaSvOp2
namespace Go.Sv

/-! ### Values -/
inductive LV where
  | any
  | bool (b : Bool)
  | u (x : UInt64)
  | b (x : UInt8)
  | i (n : Int)
  | int (k : IntKind) (n : Int)
  | str (l : List UInt8)
  | nilPtr
  | ptr (p i : Nat)
  | dptr (p k i : Nat)
  | cptr (l : List LV) (i : Nat)
  | nilSl
  | dy (p k : Nat)
  | vw (p k lo len : Nat)
  | lst (l : List LV) (len esz : Nat)
  | nilMap
  | map (p : Nat)
  | nilFn
  | fn (f : Fn) (first cap : List LV)
  | nilIf
  | iface (t : TypeId) (v : LV)
  | agg (l : List LV)
  | tup (l : List LV)
  deriving Inhabited

abbrev LEnv := List (Nat × LV)
def lk0 : LEnv → Nat → LV
  | [], _ => .any
  | (d, v) :: l, t => if t = d then v else lk0 l t
/-! What no reckoning opens by itself. -/
theorem hide_ex {α : Type} (f : α) : ∃ g : α, g = f := ⟨f, rfl⟩
noncomputable def hide {α : Type} (f : α) : α := Classical.choose (hide_ex f)
theorem hide_eq {α : Type} (f : α) : hide f = f := Classical.choose_spec (hide_ex f)
noncomputable def lk : LEnv → Nat → LV := hide lk0
theorem lk_nil (t : Nat) : lk [] t = .any := by unfold lk; rw [hide_eq]; rfl
theorem lk_cons (d : Nat) (v : LV) (l : LEnv) (t : Nat) : lk ((d, v) :: l) t = if t = d then v else lk l t := by unfold lk; rw [hide_eq]; rfl

inductive LObj where
  | dead (st : Nat)
  | cells (l : List LV) (st : Nat)
  | dyn (l : List LV) (len esz ver st : Nat)
  | map (es : List (LV × LV × Nat)) (clock st : Nat)
  | iter (l : List UInt8) (pos : Nat)
  | loop (s : LoopState) (pend : Option Code) (f n : Nat) (ρ : LEnv) (ps : Array Tmp) (a b : Code) (d : Nat)
  | defd (op : Bool)
abbrev LHeap := List LObj

def LObj.live : LObj → Bool
  | .dead _ => false
  | _ => true
/-- Objects that are stamped whenever they are turned. -/
def LObj.stp : LObj → Bool
  | .cells _ _ => true
  | .dyn _ _ _ _ _ => true
  | .map _ _ _ => true
  | _ => false
def LObj.st : LObj → Nat
  | .cells _ st => st
  | .dyn _ _ _ _ st => st
  | .map _ _ st => st
  | .dead st => st
  | _ => 0

/-- The cells that a value fills. -/
def LV.cells : LV → Option (List LV)
  | .any => none
  | .agg cs => some cs
  | .tup _ => none
  | v => some [v]

mutual
noncomputable def toA : LV → AV
  | .bool b => .bool b
  | .u x => .int .u64 (Int.ofNat x.toNat)
  | .b x => .int .u8 (Int.ofNat x.toNat)
  | .i n => .int .i64 n
  | .int k n => .int k n
  | .str l => .str l.length (packL l)
  | .nilPtr => .nilPtr
  | .nilSl => .nilSl
  | .nilMap => .nilMap
  | .nilFn => .nilFn
  | .fn f _ _ => .fn f [] []
  | .nilIf => .nilIf
  | .agg l => .agg (toAs l)
  | .tup l => .tup (toAs l)
  | _ => .tup []
noncomputable def toAs : List LV → List AV
  | [] => []
  | v :: l => toA v :: toAs l
end
/-- Values that stand in code. -/
def LV.scal : LV → Bool
  | .bool _ | .u _ | .b _ | .i _ | .int _ _ | .str _ | .nilPtr | .nilSl | .nilMap | .nilFn | .nilIf => true
  | _ => false
def LV.cst : LV → Bool
  | .fn (.func _) [] [] => true
  | .agg l => l.all LV.scal
  | .tup [] => true
  | v => v.scal

/-! ### What stands for what -/
/-- Of each object its version and its handle; the objects that nobody turns any more; the evaluator's heap. -/
structure Cx where
  hd : List (Nat × AV)
  Fz : Nat → Prop
  H : Heap

def slish : AV → Bool
  | .nilSl => true
  | .emp => true
  | .sl _ _ _ _ _ _ => true
  | _ => false
mutual
inductive AR (c : Cx) : LV → AV → Prop where
  | any (a : AV) : AR c .any a
  | bool (b : Bool) : AR c (.bool b) (.bool b)
  | u (x : UInt64) : AR c (.u x) (.int .u64 (Int.ofNat x.toNat))
  | b (x : UInt8) : AR c (.b x) (.int .u8 (Int.ofNat x.toNat))
  | i (n : Int) : AR c (.i n) (.int .i64 n)
  | int (k : IntKind) (n : Int) : AR c (.int k n) (.int k n)
  | str (l : List UInt8) : AR c (.str l) (.str l.length (packL l))
  | nilPtr : AR c .nilPtr .nilPtr
  | ptr {p i o : Nat} (h : c.hd[p]? = some (0, .ptr o 0 0)) : AR c (.ptr p i) (.ptr o 0 i)
  | dptr {p k i k' o v j : Nat} {h : AV} (hp : c.hd[p]? = some (k', h)) (hk : k ≤ k') (ha : k = k' → j = i ∧ ∃ len esz room, h = .sl o v 0 len esz room) : AR c (.dptr p k i) (.ptr o v j)
  | cptr {l : List LV} {i o v j : Nat} {l' : List AV} (hf : c.Fz o) (hr : readAt c.H o v j l.length = some l') (hl : ARs c l l') : AR c (.cptr l i) (.ptr o v (j + i))
  | nilSl : AR c .nilSl .nilSl
  | dy {p k k' : Nat} {h a : AV} (hp : c.hd[p]? = some (k', h)) (hk : k ≤ k') (ha : k = k' → a = h) (hs : slish a = true) : AR c (.dy p k) a
  | vw {p k lo len k' : Nat} {h a : AV} (hp : c.hd[p]? = some (k', h)) (hk : k ≤ k') (ha : k = k' → (len = 0 ∧ (a = .nilSl ∨ a = .emp)) ∨ ∃ o v len' esz room room', h = .sl o v 0 len' esz room ∧ a = .sl o v (lo * esz) len esz room' ∧ ∀ r, room' = some r → len ≤ r) (hs : slish a = true) : AR c (.vw p k lo len) a
  | lst {l : List LV} {len esz o v i : Nat} {room : Option Nat} {l' : List AV} (hf : c.Fz o) (hrm : ∀ r, room = some r → len ≤ r) (hlen : l.length = len * esz) (hr : readAt c.H o v i (len * esz) = some l') (hl : ARs c l l') : AR c (.lst l len esz) (.sl o v i len esz room)
  | lstNil {esz : Nat} : AR c (.lst [] 0 esz) .nilSl
  | lstEmp {esz : Nat} : AR c (.lst [] 0 esz) .emp
  | nilMap : AR c .nilMap .nilMap
  | map {p o : Nat} (h : c.hd[p]? = some (0, .map o)) : AR c (.map p) (.map o)
  | nilFn : AR c .nilFn .nilFn
  | fn {f : Nat} {l r : List LV} {l' r' : List AV} (hl : ARs c l l') (hr : ARs c r r') : AR c (.fn (.func f) l r) (.fn (.func f) l' r')
  | yield {p o : Nat} (h : c.hd[p]? = some (0, .ptr o 0 0)) : AR c (.fn (.yield p) [] []) (.fn (.yield o) [] [])
  | nilIf : AR c .nilIf .nilIf
  | iface {t : TypeId} {v : LV} {a : AV} (h : AR c v a) : AR c (.iface t v) (.iface t a)
  | agg {l : List LV} {l' : List AV} (h : ARs c l l') : AR c (.agg l) (.agg l')
  | tup {l : List LV} {l' : List AV} (h : ARs c l l') : AR c (.tup l) (.tup l')
inductive ARs (c : Cx) : List LV → List AV → Prop where
  | nil : ARs c [] []
  | cons {v : LV} {a : AV} {l : List LV} {r : List AV} (h : AR c v a) (hs : ARs c l r) : ARs c (v :: l) (a :: r)
end

inductive MRs (c : Cx) : List (LV × LV × Nat) → List (AV × AV × Nat) → Prop where
  | nil : MRs c [] []
  | cons {k v : LV} {a b : AV} {n : Nat} {l : List (LV × LV × Nat)} {r : List (AV × AV × Nat)} (hk : AR c k a) (hv : AR c v b) (h : MRs c l r) : MRs c ((k, v, n) :: l) ((a, b, n) :: r)

def EnvL (c : Cx) (ρ : LEnv) (E : Tr AV) : Prop := ∀ t, AR c (lk ρ t) ((getP (pathOf t) E).getD undefA)

def ObR (c : Cx) (k : Nat) (h : AV) : LObj → Prop
  | .dead _ => True
  | .cells l _ => k = 0 ∧ ∃ o t l', h = .ptr o 0 0 ∧ c.H.get o = some (.cells t l.length 0 false) ∧ getCells t 0 l.length = some l' ∧ ARs c l l'
  | .dyn l len esz ver _ => k = ver ∧ l.length = len * esz ∧ ((h = .nilSl ∧ len = 0) ∨ ∃ o v room t clen l', h = .sl o v 0 len esz room ∧ c.H.get o = some (.cells t clen v false) ∧ len * esz ≤ clen ∧
      getCells t 0 (len * esz) = some l' ∧ ARs c l l' ∧ (∀ r, room = some r → clen = r * esz ∧ len ≤ r) ∧ (room = none → clen = len * esz))
  | .map es ck _ => k = 0 ∧ ∃ o es', h = .map o ∧ c.H.get o = some (.map es' ck) ∧ MRs c es es'
  | .iter l pos => k = 0 ∧ ∃ o, h = .ptr o 0 0 ∧ c.H.get o = some (.iter l.length (packL l) pos)
  | .loop s pend f n ρ ps a b d => k = 0 ∧ ∃ o od E, h = .ptr o 0 0 ∧ c.hd[d]? = some (0, .ptr od 0 0) ∧ c.H.get o = some (.loop s pend f n E ps a b od) ∧ EnvL c ρ E
  | .defd op => k = 0 ∧ ∃ o, h = .ptr o 0 0 ∧ c.H.get o = some (.defd op)

/-- The evaluator's objects that the logic's objects are. -/
def Own (c : Cx) (G : LHeap) (o : Nat) : Prop := ∃ (p : Nat) (ob : LObj) (k : Nat) (h : AV), G[p]? = some ob ∧ ob.live = true ∧ c.hd[p]? = some (k, h) ∧ idOf h = some o

structure HSim (c : Cx) (G : LHeap) : Prop where
  len : c.hd.length = G.length
  fz : ∀ o, c.Fz o → o < c.H.next
  lt : ∀ o, Own c G o → o < c.H.next
  sep : ∀ o, Own c G o → ¬ c.Fz o
  obj : ∀ (p : Nat) (ob : LObj) (k : Nat) (h : AV), G[p]? = some ob → c.hd[p]? = some (k, h) → ObR c k h ob
  excl : ∀ (p q : Nat) (ob ob' : LObj) (k : Nat) (h : AV) (k' : Nat) (h' : AV) (o : Nat), G[p]? = some ob → G[q]? = some ob' → ob.live = true → ob'.live = true → c.hd[p]? = some (k, h) → c.hd[q]? = some (k', h') → idOf h = some o → idOf h' = some o → p = q

/-- Handles that stay. -/
def fixd : AV → Bool
  | .ptr _ _ _ => true
  | .map _ => true
  | _ => false
/-- What was known stays known. -/
structure CxLe (c c' : Cx) : Prop where
  hd : ∀ (p k : Nat) (h : AV), c.hd[p]? = some (k, h) → ∃ (k' : Nat) (h' : AV), c'.hd[p]? = some (k', h') ∧ k ≤ k' ∧ (k = k' → h = h') ∧ (fixd h = true → k = k')
  fz : ∀ o, c.Fz o → c'.Fz o ∧ c'.H.get o = c.H.get o

structure Step (c : Cx) (G : LHeap) (c' : Cx) (G' : LHeap) : Prop where
  le : CxLe c c'
  nx : c.H.next ≤ c'.H.next
  frame : ∀ o, o < c.H.next → ¬ Own c G o → c'.H.get o = c.H.get o
  new : ∀ o, Own c' G' o → Own c G o ∨ c.H.next ≤ o
  fznew : ∀ o, c'.Fz o → c.Fz o ∨ Own c G o ∨ c.H.next ≤ o
  mono : ∀ (p : Nat) (ob ob' : LObj), G[p]? = some ob → G'[p]? = some ob' → ob.st ≤ ob'.st
  st : ∀ (p : Nat) (ob ob' : LObj) (k : Nat) (h : AV) (o : Nat), G[p]? = some ob → G'[p]? = some ob' → c.hd[p]? = some (k, h) → idOf h = some o → ob.stp = true → ob.st = ob'.st → ob' = ob ∧ c'.H.get o = c.H.get o ∧ c'.hd[p]? = c.hd[p]?

/-! ### Operations -/
inductive Lx where
  | t (i : Nat)
  | c (v : LV)
noncomputable def Lx.ev (ρ : LEnv) : Lx → LV
  | .t i => lk ρ i
  | .c v => v
noncomputable def Lx.r : Lx → Ox
  | .t i => .t i
  | .c v => .c (toA v)
def Lx.ok : Lx → Bool
  | .t _ => true
  | .c v => v.cst

inductive LOp where
  | move (x : Lx)
  | pick (c a b : Lx)
  | alloc (l : List LV)
  | box (x : Lx)
  | build (cs : List LV) (ps : List (Nat × Nat × Lx))
  | buildSl (size len : Nat) (cs : List LV) (ps : List (Nat × Nat × Lx))
  | load1 (x : Lx)
  | loadN (n : Nat) (x : Lx)
  | store (n : Nat) (x y : Lx)
  | nilChk (x : Lx)
  | bin (op : BinOp) (g : Bool) (t : TypeId) (x y : Lx)
  | un (op : UnOp) (x : Lx)
  | cvInt (k : IntKind) (x : Lx)
  | cvStr (x : Lx)
  | cvSame (x : Lx)
  | cvBytes (x : Lx)
  | mkFunc (f : Nat) (first cap : List Lx)
  | mkSl (size : Nat) (z : List LV) (l c : Lx)
  | slStr (x : Lx) (lo hi : Option Lx)
  | slSl (size : Nat) (x : Lx) (lo hi : Option Lx)
  | slSl3 (size : Nat) (x : Lx) (lo hi : Option Lx) (mx : Lx)
  | fieldAddr (off : Nat) (x : Lx)
  | field (g : Bool) (n off : Nat) (x : Lx)
  | ixAddr (size : Nat) (x i : Lx)
  | ixStr (x i : Lx)
  | extract (i : Nat) (x : Lx)
  | lenStr (x : Lx)
  | lenSl (x : Lx)
  | maxi (mx : Bool) (x y : Lx)
  | appZ (size : Nat) (z : List LV) (s x : Lx)
  | appG (size : Nat) (s x : Lx)
  | copy (size : Nat) (d x : Lx)
  | callV (f : Lx) (args : List Lx)

noncomputable def rps : List (Nat × Nat × Lx) → List (Nat × Nat × Ox)
  | [] => []
  | (a, b, x) :: l => (a, b, x.r) :: rps l
noncomputable def rxs : List Lx → List Ox
  | [] => []
  | x :: l => x.r :: rxs l
noncomputable def LOp.r : LOp → ROp
  | .move x => .move x.r
  | .pick c a b => .pick c.r a.r b.r
  | .alloc l => .alloc (toAs l)
  | .box x => .box x.r
  | .build cs ps => .build (toAs cs) (rps ps)
  | .buildSl s n cs ps => .buildSl s n (toAs cs) (rps ps)
  | .load1 x => .load1 x.r
  | .loadN n x => .loadN n x.r
  | .store n x y => .store n x.r y.r
  | .nilChk x => .nilChk x.r
  | .bin op g t x y => .bin op g t x.r y.r
  | .un op x => .un op x.r
  | .cvInt k x => .cvInt k x.r
  | .cvStr x => .cvStr x.r
  | .cvSame x => .cvSame x.r
  | .cvBytes x => .cvBytes x.r
  | .mkFunc f a b => .mkFunc (.func f) (rxs a) (rxs b)
  | .mkSl s z l c => .mkSl s (toAs z) l.r c.r
  | .slStr x lo hi => .slStr x.r (lo.map Lx.r) (hi.map Lx.r)
  | .slSl s x lo hi => .slSl s x.r (lo.map Lx.r) (hi.map Lx.r) none
  | .slSl3 s x lo hi mx => .slSl s x.r (lo.map Lx.r) (hi.map Lx.r) (some mx.r)
  | .fieldAddr o x => .fieldAddr o x.r
  | .field g n o x => .field g n o x.r
  | .ixAddr s x i => .ixAddr s x.r i.r
  | .ixStr x i => .ixStr x.r i.r
  | .extract i x => .extract i x.r
  | .lenStr x => .lenStr x.r
  | .lenSl x => .lenSl x.r
  | .maxi m x y => .maxi m [x.r, y.r]
  | .appZ s z a x => .appZ s (toAs z) a.r x.r
  | .appG s a x => .appG s a.r x.r
  | .copy s d x => .copy s d.r x.r
  | .callV f l => .callV f.r (rxs l)

/-! ### Numbers -/
def inI (n : Int) : Prop := -9223372036854775808 ≤ n ∧ n < 9223372036854775808
/-! Arithmetic that no reckoning opens by itself. -/
noncomputable def addU : UInt64 → UInt64 → UInt64 := hide fun a b => a + b
noncomputable def subU : UInt64 → UInt64 → UInt64 := hide fun a b => a - b
noncomputable def mulU : UInt64 → UInt64 → UInt64 := hide fun a b => a * b
noncomputable def divU : UInt64 → UInt64 → UInt64 := hide fun a b => a / b
noncomputable def modU : UInt64 → UInt64 → UInt64 := hide fun a b => a % b
noncomputable def andU : UInt64 → UInt64 → UInt64 := hide fun a b => a &&& b
noncomputable def orU : UInt64 → UInt64 → UInt64 := hide fun a b => a ||| b
noncomputable def xorU : UInt64 → UInt64 → UInt64 := hide fun a b => a ^^^ b
noncomputable def notU : UInt64 → UInt64 := hide fun a => ~~~a
noncomputable def shlU : UInt64 → Nat → UInt64 := hide fun a s => UInt64.ofNat (a.toNat * 2 ^ s)
noncomputable def shrU : UInt64 → Nat → UInt64 := hide fun a s => UInt64.ofNat (a.toNat / 2 ^ s)
noncomputable def addB : UInt8 → UInt8 → UInt8 := hide fun a b => a + b
noncomputable def subB : UInt8 → UInt8 → UInt8 := hide fun a b => a - b
noncomputable def andB : UInt8 → UInt8 → UInt8 := hide fun a b => a &&& b
noncomputable def orB : UInt8 → UInt8 → UInt8 := hide fun a b => a ||| b
noncomputable def iU : Int → UInt64 := hide fun a => UInt64.ofInt a
noncomputable def bU : UInt8 → UInt64 := hide fun a => UInt64.ofNat a.toNat
noncomputable def uB : UInt64 → UInt8 := hide fun a => UInt8.ofNat a.toNat
noncomputable def iB : Int → UInt8 := hide fun a => UInt8.ofInt a
theorem addU_eq (a b : UInt64) : addU a b = a + b := by unfold addU; rw [hide_eq]
theorem subU_eq (a b : UInt64) : subU a b = a - b := by unfold subU; rw [hide_eq]
theorem mulU_eq (a b : UInt64) : mulU a b = a * b := by unfold mulU; rw [hide_eq]
theorem divU_eq (a b : UInt64) : divU a b = a / b := by unfold divU; rw [hide_eq]
theorem modU_eq (a b : UInt64) : modU a b = a % b := by unfold modU; rw [hide_eq]
theorem andU_eq (a b : UInt64) : andU a b = a &&& b := by unfold andU; rw [hide_eq]
theorem orU_eq (a b : UInt64) : orU a b = a ||| b := by unfold orU; rw [hide_eq]
theorem xorU_eq (a b : UInt64) : xorU a b = a ^^^ b := by unfold xorU; rw [hide_eq]
theorem notU_eq (a : UInt64) : notU a = ~~~a := by unfold notU; rw [hide_eq]
theorem shlU_eq (a : UInt64) (s : Nat) : shlU a s = UInt64.ofNat (a.toNat * 2 ^ s) := by unfold shlU; rw [hide_eq]
theorem shrU_eq (a : UInt64) (s : Nat) : shrU a s = UInt64.ofNat (a.toNat / 2 ^ s) := by unfold shrU; rw [hide_eq]
theorem addB_eq (a b : UInt8) : addB a b = a + b := by unfold addB; rw [hide_eq]
theorem subB_eq (a b : UInt8) : subB a b = a - b := by unfold subB; rw [hide_eq]
theorem andB_eq (a b : UInt8) : andB a b = a &&& b := by unfold andB; rw [hide_eq]
theorem orB_eq (a b : UInt8) : orB a b = a ||| b := by unfold orB; rw [hide_eq]
theorem iU_eq (a : Int) : iU a = UInt64.ofInt a := by unfold iU; rw [hide_eq]
theorem bU_eq (a : UInt8) : bU a = UInt64.ofNat a.toNat := by unfold bU; rw [hide_eq]
theorem uB_eq (a : UInt64) : uB a = UInt8.ofNat a.toNat := by unfold uB; rw [hide_eq]
theorem iB_eq (a : Int) : iB a = UInt8.ofInt a := by unfold iB; rw [hide_eq]
noncomputable def uuL (op : BinOp) (a b : UInt64) (K : LV → Prop) : Prop := match op with
  | .add => K (.u (addU a b))
  | .sub => K (.u (subU a b))
  | .mul => K (.u (mulU a b))
  | .quo => b ≠ 0 ∧ K (.u (divU a b))
  | .rem => b ≠ 0 ∧ K (.u (modU a b))
  | .and => K (.u (andU a b))
  | .or => K (.u (orU a b))
  | .xor => K (.u (xorU a b))
  | .andNot => K (.u (andU a (notU b)))
  | .shl => K (.u (shlU a b.toNat))
  | .shr => K (.u (shrU a b.toNat))
  | .eql => K (.bool (decide (a = b)))
  | .neq => K (.bool (decide (a ≠ b)))
  | .lss => K (.bool (decide (a < b)))
  | .leq => K (.bool (decide (a ≤ b)))
  | .gtr => K (.bool (decide (b < a)))
  | .geq => K (.bool (decide (b ≤ a)))
noncomputable def bbL (op : BinOp) (a b : UInt8) (K : LV → Prop) : Prop := match op with
  | .add => K (.b (addB a b))
  | .sub => K (.b (subB a b))
  | .and => K (.b (andB a b))
  | .or => K (.b (orB a b))
  | .eql => K (.bool (decide (a = b)))
  | .neq => K (.bool (decide (a ≠ b)))
  | .lss => K (.bool (decide (a < b)))
  | .leq => K (.bool (decide (a ≤ b)))
  | .gtr => K (.bool (decide (b < a)))
  | .geq => K (.bool (decide (b ≤ a)))
  | _ => False
def iiL (op : BinOp) (a b : Int) (K : LV → Prop) : Prop := match op with
  | .add => inI (a + b) ∧ K (.i (a + b))
  | .sub => inI (a - b) ∧ K (.i (a - b))
  | .mul => inI (a * b) ∧ K (.i (a * b))
  | .quo => b ≠ 0 ∧ inI (a.tdiv b) ∧ K (.i (a.tdiv b))
  | .rem => b ≠ 0 ∧ K (.i (a.tmod b))
  | .shl => 0 ≤ a ∧ 0 ≤ b ∧ b ≤ 64 ∧ inI (a * 2 ^ b.toNat) ∧ K (.i (a * 2 ^ b.toNat))
  | .shr => 0 ≤ a ∧ 0 ≤ b ∧ b ≤ 64 ∧ K (.i (a / 2 ^ b.toNat))
  | .eql => K (.bool (decide (a = b)))
  | .neq => K (.bool (decide (a ≠ b)))
  | .lss => K (.bool (decide (a < b)))
  | .leq => K (.bool (decide (a ≤ b)))
  | .gtr => K (.bool (decide (b < a)))
  | .geq => K (.bool (decide (b ≤ a)))
  | _ => False
def kkL (op : BinOp) (a b : Int) (K : LV → Prop) : Prop := match op with
  | .eql => K (.bool (decide (a = b)))
  | .neq => K (.bool (decide (a ≠ b)))
  | .lss => K (.bool (decide (a < b)))
  | .leq => K (.bool (decide (a ≤ b)))
  | .gtr => K (.bool (decide (b < a)))
  | .geq => K (.bool (decide (b ≤ a)))
  | _ => False
def ssL (op : BinOp) (a b : List UInt8) (K : LV → Prop) : Prop := match op with
  | .add => a.length + b.length ≤ 1000000000 ∧ K (.str (a ++ b))
  | .eql => K (.bool (decide (a = b)))
  | .neq => K (.bool (decide (a ≠ b)))
  | _ => False
noncomputable def nilL (P : Program) (op : BinOp) (g : Bool) (t : TypeId) (a b : AV) (r : Bool) (K : LV → Prop) : Prop := match op with
  | .eql => eqA P g t a b = some r ∧ K (.bool r)
  | .neq => eqA P g t a b = some r ∧ K (.bool (!r))
  | _ => False
/-- What structs of numbers, bools and texts are compared by. -/
def scalEq : LV → LV → Option Bool
  | .bool a, .bool b => some (decide (a = b))
  | .u a, .u b => some (decide (a = b))
  | .b a, .b b => some (decide (a = b))
  | .i a, .i b => some (decide (a = b))
  | .str a, .str b => some (decide (a = b))
  | _, _ => none

noncomputable def binL (P : Program) (op : BinOp) (g : Bool) (t : TypeId) (x y : LV) (K : LV → Prop) : Prop := match x, y with
  | .u a, .u b => uuL op a b K
  | .i a, .i b => iiL op a b K
  | .b a, .b b => bbL op a b K
  | .bool a, .bool b => match op with
    | .eql => eqA P g t (.bool a) (.bool b) = some (a == b) ∧ K (.bool (a == b))
    | .neq => eqA P g t (.bool a) (.bool b) = some (a == b) ∧ K (.bool (!(a == b)))
    | _ => False
  | .u a, .i s => match op with
    | .shl => 0 ≤ s ∧ K (.u (shlU a s.toNat))
    | .shr => 0 ≤ s ∧ K (.u (shrU a s.toNat))
    | _ => False
  | .i a, .u s => match op with
    | .shl => 0 ≤ a ∧ s.toNat ≤ 64 ∧ inI (a * 2 ^ s.toNat) ∧ K (.i (a * 2 ^ s.toNat))
    | .shr => 0 ≤ a ∧ s.toNat ≤ 64 ∧ K (.i (a / 2 ^ s.toNat))
    | _ => False
  | .int k a, .int k' b => k = k' ∧ kkL op a b K
  | .str a, .str b => ssL op a b K
  | .nilPtr, .nilPtr => nilL P op g t .nilPtr .nilPtr true K
  | .ptr _ _, .nilPtr => nilL P op g t (.ptr 0 0 0) .nilPtr false K
  | .nilSl, .nilSl => nilL P op g t .nilSl .nilSl true K
  | _, _ => False

noncomputable def unL (op : UnOp) (x : LV) (K : LV → Prop) : Prop := match op, x with
  | .not, .bool b => K (.bool (!b))
  | .neg, .u a => K (.u (subU 0 a))
  | .neg, .i a => inI (-a) ∧ K (.i (-a))
  | .xor, .u a => K (.u (notU a))
  | _, _ => False
noncomputable def cvL (k : IntKind) (x : LV) (K : LV → Prop) : Prop := match k, x with
  | .u64, .u a => K (.u a)
  | .u64, .i a => K (.u (iU a))
  | .u64, .b a => K (.u (bU a))
  | .i64, .u a => a.toNat < 9223372036854775808 ∧ K (.i a.toNat)
  | .i64, .i a => inI a ∧ K (.i a)
  | .i64, .b a => K (.i a.toNat)
  | .u8, .u a => K (.b (uB a))
  | .u8, .i a => K (.b (iB a))
  | .u8, .b a => K (.b a)
  | .u8, .int _ a => K (.b (iB a))
  | _, _ => False

/-- Two ways. -/
def brL (t : Bool) (A B : Prop) : Prop := (t = true → A) ∧ (t = false → B)
def brV (v : LV) (A B : Prop) : Prop := match v with
  | .bool t => brL t A B
  | _ => False

/-! ### Objects -/
/-- What stands at a pointer, so many cells. -/
def readL (G : LHeap) (x : LV) (n : Nat) (K : List LV → Prop) : Prop := match x with
  | .ptr p i => match G[p]? with
    | some (.cells l _) => i + n ≤ l.length ∧ K ((l.drop i).take n)
    | _ => False
  | .dptr p k i => match G[p]? with
    | some (.dyn l _ _ ver _) => k = ver ∧ i + n ≤ l.length ∧ K ((l.drop i).take n)
    | _ => False
  | .cptr l i => i + n ≤ l.length ∧ K ((l.drop i).take n)
  | _ => False
/-- What stands at one place of a row. -/
def nthL (l : List LV) (i : Nat) (K : LV → Prop) : Prop := ∃ v, l[i]? = some v ∧ K v
/-- One cell at a pointer. -/
def read1 (G : LHeap) (x : LV) (K : LV → Prop) : Prop := match x with
  | .ptr p i => match G[p]? with
    | some (.cells l _) => nthL l i K
    | _ => False
  | .dptr p k i => match G[p]? with
    | some (.dyn l _ _ ver _) => k = ver ∧ nthL l i K
    | _ => False
  | .cptr l i => nthL l i K
  | _ => False
/-- Cells laid over cells. -/
def layLV (l : List LV) (i : Nat) (r : List LV) : List LV := l.take i ++ r ++ l.drop (i + r.length)
def writeL (G : LHeap) (x : LV) (r : List LV) (K : LHeap → Prop) : Prop := match x with
  | .ptr p i => match G[p]? with
    | some (.cells l st) => i + r.length ≤ l.length ∧ K (G.set p (.cells (layLV l i r) (st + 1)))
    | _ => False
  | .dptr p k i => match G[p]? with
    | some (.dyn l len esz ver st) => k = ver ∧ i + r.length ≤ l.length ∧ K (G.set p (.dyn (layLV l i r) len esz ver (st + 1)))
    | _ => False
  | _ => False
def repL (z : List LV) : Nat → List LV
  | 0 => []
  | n + 1 => z ++ repL z n
/-- A row's length and its cells. -/
def rowL (G : LHeap) (size : Nat) (x : LV) (K : Nat → List LV → Prop) : Prop := match x with
  | .nilSl => K 0 []
  | .dy p k => match G[p]? with
    | some (.dyn l len esz ver _) => k = ver ∧ esz = size ∧ K len l
    | _ => False
  | .vw p k lo len => match G[p]? with
    | some (.dyn l _ esz ver _) => k = ver ∧ esz = size ∧ lo * esz + len * esz ≤ l.length ∧ K len ((l.drop (lo * esz)).take (len * esz))
    | _ => False
  | .lst l len esz => esz = size ∧ K len l
  | .str l => size = 1 ∧ K l.length (l.map LV.b)
  | _ => False
/-- The bytes of a row. -/
def bytL (G : LHeap) (x : LV) (K : List LV → Prop) : Prop := match x with
  | .nilSl => K []
  | .dy p k => match G[p]? with
    | some (.dyn l _ esz ver _) => k = ver ∧ esz = 1 ∧ K l
    | _ => False
  | .lst l len esz => esz = 1 ∧ len ≠ 0 ∧ K l
  | _ => False
def lenL (G : LHeap) (x : LV) (K : Nat → Prop) : Prop := match x with
  | .nilSl => K 0
  | .dy p k => match G[p]? with
    | some (.dyn _ len _ ver _) => k = ver ∧ K len
    | _ => False
  | .vw p k _ len => match G[p]? with
    | some (.dyn _ _ _ ver _) => k = ver ∧ K len
    | _ => False
  | .lst _ len _ => K len
  | _ => False
def appL (G : LHeap) (size : Nat) (s : LV) (n : Nat) (new : List LV) (K : LV → LHeap → Prop) : Prop := match s with
  | .nilSl => K (.dy G.length 0) (G ++ [.dyn new n size 0 0])
  | .dy p k => match G[p]? with
    | some (.dyn l len esz ver st) => k = ver ∧ (esz = size ∧ 0 < esz) ∧ len ≤ 1000000000 ∧ K (.dy p (ver + 1)) (G.set p (.dyn (l ++ new) (len + n) esz (ver + 1) (st + 1)))
    | _ => False
  | _ => False
noncomputable def fillL (ρ : LEnv) (cs : List LV) : List (Nat × Nat × Lx) → Option (List LV)
  | [] => some cs
  | (off, size, x) :: ps => match (x.ev ρ).cells with
    | none => none
    | some l => if l.length = size ∧ off + size ≤ cs.length then fillL ρ (layLV cs off l) ps else none
/-- A slice's bound. -/
noncomputable def bndL (ρ : LEnv) (d : Nat) (x : Option Lx) (K : Nat → Prop) : Prop := match x with
  | none => K d
  | some x => match x.ev ρ with
    | .i n => 0 ≤ n ∧ K n.toNat
    | .u n => K n.toNat
    | _ => False

/-! ### Calls -/
inductive LTgt where
  | fn (f : Nat)
  | yield (p : Nat)
def TgtR (c : Cx) : LTgt → Tgt → Prop
  | .fn f, .fn g => f = g
  | .yield p, .yield o => c.hd[p]? = some (0, .ptr o 0 0)
  | _, _ => False
def tgtOk (P : Program) : LTgt → Prop
  | .fn f => callable P f = true ∧ isClone P f = false
  | .yield _ => True
/-- What a call comes to. -/
def CallL (P : Program) (t : LTgt) (args : List LV) (G : LHeap) (K : LV → LHeap → Prop) : Prop :=
  tgtOk P t ∧ ∀ c t1 args1, HSim c G → TgtR c t t1 → ARs c args args1 → ∃ m v1 H', callA P noO m t1 args1 c.H = .ok v1 H' ∧ ∃ c' v G', c'.H = H' ∧ HSim c' G' ∧ Step c G c' G' ∧ AR c' v v1 ∧ K v G'

/-- What an operation comes to. -/
noncomputable def OpL (P : Program) (ρ : LEnv) (G : LHeap) (o : LOp) (K : LV → LHeap → Prop) : Prop := match o with
  | .move x => K (x.ev ρ) G
  | .pick c a b => match c.ev ρ with
    | .bool t => match a.ev ρ, b.ev ρ with
      | .bool x, .bool y => K (.bool (match t with | true => x | false => y)) G
      | x, y => brL t (K x G) (K y G)
    | _ => False
  | .alloc l => K (.ptr G.length 0) (G ++ [.cells l 0])
  | .box x => match (x.ev ρ).cells with
    | some l => K (.ptr G.length 0) (G ++ [.cells l 0])
    | none => False
  | .build cs ps => match fillL ρ cs ps with
    | some l => K (.agg l) G
    | none => False
  | .buildSl size len cs ps => match fillL ρ cs ps with
    | some l => l.length = len * size ∧ K (.dy G.length 0) (G ++ [.dyn l len size 0 0])
    | none => False
  | .load1 x => read1 G (x.ev ρ) fun v => K v G
  | .loadN n x => readL G (x.ev ρ) n fun l => K (.agg l) G
  | .store n x y => match (y.ev ρ).cells with
    | some l => l.length = n ∧ writeL G (x.ev ρ) l fun G' => K (.tup []) G'
    | none => False
  | .nilChk x => match x.ev ρ with
    | .ptr p i => K (.ptr p i) G
    | .cptr l i => K (.cptr l i) G
    | .fn (.func f) a b => K (.fn (.func f) a b) G
    | _ => False
  | .bin op g t x y => binL P op g t (x.ev ρ) (y.ev ρ) fun v => K v G
  | .un op x => unL op (x.ev ρ) fun v => K v G
  | .cvInt k x => cvL k (x.ev ρ) fun v => K v G
  | .cvStr x => bytL G (x.ev ρ) fun l => ∃ bs : List UInt8, l = bs.map LV.b ∧ K (.str bs) G
  | .cvSame x => match x.ev ρ with
    | .str l => K (.str l) G
    | _ => False
  | .cvBytes x => match x.ev ρ with
    | .str l => K (.dy G.length 0) (G ++ [.dyn (l.map LV.b) l.length 1 0 0])
    | _ => False
  | .mkFunc f a b => K (.fn (.func f) (a.map (·.ev ρ)) (b.map (·.ev ρ))) G
  | .mkSl size z l c => match l.ev ρ, c.ev ρ with
    | .i l, .i c => l = c ∧ 0 ≤ l ∧ l ≤ 1048576 ∧ z.length = size ∧ K (.dy G.length 0) (G ++ [.dyn (repL z l.toNat) l.toNat size 0 0])
    | _, _ => False
  | .slStr x lo hi => match x.ev ρ with
    | .str l => bndL ρ 0 lo fun a => bndL ρ l.length hi fun b => a ≤ b ∧ b ≤ l.length ∧ K (.str ((l.drop a).take (b - a))) G
    | _ => False
  | .slSl size x lo hi => match x.ev ρ with
    | .nilSl => bndL ρ 0 lo fun a => bndL ρ 0 hi fun b => a = 0 ∧ b = 0 ∧ K .nilSl G
    | .dy p k => match G[p]? with
      | some (.dyn _ len esz ver _) => k = ver ∧ esz = size ∧ bndL ρ 0 lo fun a => bndL ρ len hi fun b => a ≤ b ∧ b ≤ len ∧ K (.vw p k a (b - a)) G
      | _ => False
    | .vw p k l0 len => match G[p]? with
      | some (.dyn _ _ esz ver _) => k = ver ∧ esz = size ∧ bndL ρ 0 lo fun a => bndL ρ len hi fun b => a ≤ b ∧ b ≤ len ∧ K (.vw p k (l0 + a) (b - a)) G
      | _ => False
    | .lst l len esz => esz = size ∧ bndL ρ 0 lo fun a => bndL ρ len hi fun b => a ≤ b ∧ b ≤ len ∧ K (.lst ((l.drop (a * esz)).take ((b - a) * esz)) (b - a) esz) G
    | _ => False
  | .slSl3 size x lo hi mx => match x.ev ρ with
    | .dy p k => match G[p]? with
      | some (.dyn _ len esz ver _) => k = ver ∧ esz = size ∧ bndL ρ 0 lo fun a => bndL ρ len hi fun b => bndL ρ 0 (some mx) fun m => 0 < len ∧ a ≤ b ∧ b ≤ m ∧ m ≤ len ∧ K (.vw p k a (b - a)) G
      | _ => False
    | .lst l len esz => esz = size ∧ bndL ρ 0 lo fun a => bndL ρ len hi fun b => bndL ρ 0 (some mx) fun m => 0 < len ∧ a ≤ b ∧ b ≤ m ∧ m ≤ len ∧ K (.lst ((l.drop (a * esz)).take ((b - a) * esz)) (b - a) esz) G
    | _ => False
  | .fieldAddr off x => match x.ev ρ with
    | .ptr p i => K (.ptr p (i + off)) G
    | .dptr p k i => K (.dptr p k (i + off)) G
    | .cptr l i => K (.cptr l (i + off)) G
    | _ => False
  | .field g n off x => match x.ev ρ with
    | .agg l => match g with
      | true => off + n ≤ l.length ∧ K (.agg ((l.drop off).take n)) G
      | false => nthL l off fun v => K v G
    | _ => False
  | .ixAddr size x i => match i.ev ρ with
    | .i n => match x.ev ρ with
      | .dy p k => match G[p]? with
        | some (.dyn _ len esz ver _) => k = ver ∧ esz = size ∧ 0 ≤ n ∧ n < len ∧ K (.dptr p k (n.toNat * size)) G
        | _ => False
      | .vw p k lo len => match G[p]? with
        | some (.dyn _ _ esz ver _) => k = ver ∧ esz = size ∧ 0 ≤ n ∧ n < len ∧ K (.dptr p k ((lo + n.toNat) * size)) G
        | _ => False
      | .lst l len esz => esz = size ∧ 0 ≤ n ∧ n < len ∧ K (.cptr l (n.toNat * size)) G
      | _ => False
    | _ => False
  | .ixStr x i => match x.ev ρ, i.ev ρ with
    | .str l, .i n => 0 ≤ n ∧ n < l.length ∧ K (.b (l.getD n.toNat 0)) G
    | .str l, .u n => n.toNat < l.length ∧ K (.b (l.getD n.toNat 0)) G
    | _, _ => False
  | .extract i x => match x.ev ρ with
    | .tup l => nthL l i fun v => K v G
    | _ => False
  | .lenStr x => match x.ev ρ with
    | .str l => K (.i l.length) G
    | _ => False
  | .lenSl x => lenL G (x.ev ρ) fun n => K (.i n) G
  | .maxi mx x y => match x.ev ρ, y.ev ρ with
    | .i a, .i b => K (.i (match mx with | true => max a b | false => min a b)) G
    | .u a, .u b => K (.u (match mx with | true => if a < b then b else a | false => if b < a then b else a)) G
    | _, _ => False
  | .appZ size z s x => match x.ev ρ with
    | .i n => 0 ≤ n ∧ n ≤ 1048576 ∧ z.length = size ∧ appL G size (s.ev ρ) n.toNat (repL z n.toNat) K
    | _ => False
  | .appG size s x => rowL G size (x.ev ρ) fun n l => n ≤ 1048576 ∧ appL G size (s.ev ρ) n l K
  | .copy size d x => rowL G size (x.ev ρ) fun n l => match d.ev ρ with
    | .dy p k => match G[p]? with
      | some (.dyn r len esz ver st) => k = ver ∧ esz = size ∧ K (.i (min n len : Nat)) (G.set p (.dyn (layLV r 0 (l.take (min n len * size))) len esz ver (st + 1)))
      | _ => False
    | .vw p k lo len => match G[p]? with
      | some (.dyn r len0 esz ver st) => k = ver ∧ esz = size ∧ (lo + len) * size ≤ r.length ∧ K (.i (min n len : Nat)) (G.set p (.dyn (layLV r (lo * size) (l.take (min n len * size))) len0 esz ver (st + 1)))
      | _ => False
    | _ => False
  | .callV f args => match f.ev ρ with
    | .fn (.func g) a b => CallL P (.fn g) (a ++ args.map (·.ev ρ) ++ b) G K
    | .fn (.yield p) [] _ => CallL P (.yield p) (args.map (·.ev ρ)) G K
    | _ => False
end Go.Sv
