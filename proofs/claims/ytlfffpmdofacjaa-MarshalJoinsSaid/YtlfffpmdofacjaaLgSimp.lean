/- The logic's code as one formula; the logic's words open by themselves, from the outside in. -/
import Derived.Test.YtlfffpmdofacjaaLgRange
namespace Go.Sv

/-- What code comes to, up to its loops. -/
noncomputable def wp (P : Program) (f n : Nat) (ro : Option Nat) : LC → LEnv → List Nat → LHeap → Post → Prop
  | .skip, ρ, D, G, Q => Q .normal ρ D G
  | .ops l, ρ, D, G, Q => OpsL P l ρ G fun ρ' G' => Q .normal ρ' D G'
  | .seq a b, ρ, D, G, Q => wp P f n ro a ρ D G fun x ρ' D' G' => match x with
    | .normal => wp P f n ro b ρ' D' G' Q
    | x => Q x ρ' D' G'
  | .cond x a b, ρ, D, G, Q => brV (x.ev ρ) (wp P f n ro a ρ D G Q) (wp P f n ro b ρ D G Q)
  | .block id c, ρ, D, G, Q => wp P f n ro c ρ D G fun x ρ' D' G' => match x with
    | .exit i => if i = id then Q .normal ρ' D' G' else Q (.exit i) ρ' D' G'
    | x => Q x ρ' D' G'
  | .draw l, ρ, D, G, Q => DrL P l ρ G fun ρ' G' => Q .normal ρ' D G'
  | .exit id, ρ, D, G, Q => Q (.exit id) ρ D G
  | .scope c, ρ, D, G, Q => wp P f n ro c ρ D G Q
  | .label, ρ, D, G, Q => Q .normal ρ D G
  | .ret, ρ, D, G, Q => Q .ret ρ D G
  | .stuck, _, _, _, _ => False
  | s, ρ, D, G, Q => W P f n s ro ρ D G Q
/-! ### What stands behind, named -/
noncomputable def seqQ (P : Program) (f n : Nat) (ro : Option Nat) (b : LC) (Q : Post) : Post := fun x ρ' D' G' => match x with
    | .normal => wp P f n ro b ρ' D' G' Q
    | x => Q x ρ' D' G'
def blkQ (id : Nat) (Q : Post) : Post := fun x ρ' D' G' => match x with
    | .exit i => if i = id then Q .normal ρ' D' G' else Q (.exit i) ρ' D' G'
    | x => Q x ρ' D' G'
def nxQ (Nx : LEnv → List Nat → LHeap → Prop) (Q : Post) : Post := fun x ρ' D' G' => match x with
    | .normal => Nx ρ' D' G'
    | x => Q x ρ' D' G'
def endK (K : LV → LHeap → Prop) (G : LHeap) : List LV → Prop := fun vs => K (oneL vs) G
noncomputable def takK (ρ : LEnv) (rs : List RRes) (K : LV → LHeap → Prop) : LHeap → Prop := fun G2 => resL ρ G2 rs (endK K G2)
noncomputable def endQ (rs : List RRes) (K : LV → LHeap → Prop) : Post := fun x ρ D G' => match x with
      | .exit _ => False
      | _ => takeL D G' (takK ρ rs K)
def norQ (Q : Post) (D : List Nat) : LEnv → LHeap → Prop := fun ρ G => Q .normal ρ D G
noncomputable def opsK (P : Program) (l : List LI) (K : LEnv → LHeap → Prop) : LEnv → LHeap → Prop := fun ρ' G' => OpsL P l ρ' G' K
def itK (ρ : LEnv) (d : Option Nat) (K : LEnv → LHeap → Prop) : LV → LHeap → Prop := fun v G' => K (updL ρ d v) G'
def atG (K : LV → LHeap → Prop) (G : LHeap) : LV → Prop := fun v => K v G
noncomputable def drK (P : Program) (cs : List (LI × Bool)) (l : List (LI × List (LI × Bool))) (ρ : LEnv) (G : LHeap) (K : LEnv → LHeap → Prop) : LEnv → LHeap → Prop := fun ρ' G' => cksL ρ G G' cs ∧ DrL P l ρ' G' K
noncomputable def tmpK (ρ : LEnv) (t : Nat) (K : List LV → Prop) : List LV → Prop := fun vs => K (lk ρ t :: vs)
def conK (v : LV) (K : List LV → Prop) : List LV → Prop := fun vs => K (v :: vs)
noncomputable def c1K (ρ : LEnv) (G : LHeap) (l : List RRes) (K : List LV → Prop) : LV → Prop := fun v => resL ρ G l (conK v K)
noncomputable def cnK (ρ : LEnv) (G : LHeap) (l : List RRes) (K : List LV → Prop) : List LV → Prop := fun cs => resL ρ G l (conK (.agg cs) K)
def takM (o : Option LObj) (A : Prop) : Prop := match o with
  | some (.defd true) => A
  | _ => False
theorem wp_W {P : Program} {f n : Nat} {ro : Option Nat} : ∀ (s : LC) {ρ : LEnv} {D : List Nat} {G : LHeap} {Q : Post}, wp P f n ro s ρ D G Q → W P f n s ro ρ D G Q
  | .skip, _, _, _, _, h => W_skip h
  | .ops l, _, _, _, _, h => W_ops h
  | .seq a b, _, _, _, _, h => W_seq ((wp_W a h).post fun x ρ D G k => by
    cases x with
    | normal => exact wp_W b k
    | exit i => exact k
    | ret => exact k)
  | .cond x a b, ρ, _, _, _, h => by
    simp only [wp] at h
    obtain ⟨t, hx, h⟩ := brV_bool h
    exact W_cond hx (fun e => wp_W a (h.1 e)) (fun e => wp_W b (h.2 e))
  | .block id c, _, _, _, _, h => W_block (wp_W c h)
  | .exit id, _, _, _, _, h => W_exit h
  | .scope c, _, _, _, _, h => W_scope (wp_W c h)
  | .label, _, _, _, _, h => W_label h
  | .ret, _, _, _, _, h => W_ret h
  | .stuck, _, _, _, _, h => h.elim
  | .draw l, _, _, _, _, h => W_draw h
  | .loop c, _, _, _, _, h => h
  | .rangeF g ps a b, _, _, _, _, h => h

section rules
variable {P : Program}
theorem call_body {f : Nat} {s : LC} {n : Nat} {rs : List RRes} (hf : resFn P f = some ⟨n, s.r, rs⟩) (hok : s.ok = true) {args : List LV} {G : LHeap} {K : LV → LHeap → Prop} (hn : args.length ≤ n)
    (h : wp P f n none s (argsL args 0) [] G (endQ rs K)) : CallL P (.fn f) args G K :=
  CallL_body hf hok hn ((wp_W s h).post fun x ρ D G' k => by
    cases x with
    | normal => exact ⟨trivial, k⟩
    | exit i => exact k.elim
    | ret => exact ⟨trivial, k⟩)
/-- A contract for a function whose results are no rows. -/
theorem FnS.val {f : Nat} {args : List LV} {v0 : LV} (hsim : v0.sim 0 = true) (h : CallL P (.fn f) args [] fun v _ => v = subV [] v0) : FnS P f args v0 [] :=
  .mk hsim (h.mono fun v G e => ⟨[], e, rfl, trivial⟩) (fun j ob e => by simp at e)
theorem loop_wp {f n : Nat} {ro : Option Nat} {ρ : LEnv} {D : List Nat} {G : LHeap} {Q : Post} {s : LC} (I : LEnv → List Nat → LHeap → Nat → Prop) {N : Nat} (h0 : I ρ D G N)
    (h : ∀ N ρ D G, I ρ D G N → wp P f n ro s ρ D G (nxQ (fun ρ' D' G' => ∃ N', N' < N ∧ I ρ' D' G' N') Q)) : W P f n (.loop s) ro ρ D G Q :=
  W_loop I h0 fun N ρ D G k => wp_W s (h N ρ D G k)
/-- The same, the next round's start hidden from what goes through the round. -/
theorem loop_nx {f n : Nat} {ro : Option Nat} {ρ : LEnv} {D : List Nat} {G : LHeap} {Q : Post} {s : LC} (I : LEnv → List Nat → LHeap → Nat → Prop) {N : Nat} (h0 : I ρ D G N)
    (h : ∀ (N : Nat) (ρ : LEnv) (D : List Nat) (G : LHeap), I ρ D G N → ∀ Nx : LEnv → List Nat → LHeap → Prop, (∀ (ρ' : LEnv) (D' : List Nat) (G' : LHeap), (∃ N', N' < N ∧ I ρ' D' G' N') → Nx ρ' D' G') → wp P f n ro s ρ D G (nxQ Nx Q)) : W P f n (.loop s) ro ρ D G Q :=
  W_loop I h0 fun N ρ D G k => wp_W s (h N ρ D G k (fun ρ' D' G' => ∃ N', N' < N ∧ I ρ' D' G' N') fun _ _ _ e => e)
end rules

/-! ### From the outside in: what stands behind is left alone -/
section congr
variable {P : Program} {ρ ρ' : LEnv} {G G' : LHeap} {x x' y y' : LV} {K : LV → LHeap → Prop} {Kv : LV → Prop}
@[congr] theorem OpL_congr {o : LOp} (h1 : ρ = ρ') (h2 : G = G') : OpL P ρ G o K = OpL P ρ' G' o K := by rw [h1, h2]
@[congr] theorem ItL_congr {i : LI} {K : LEnv → LHeap → Prop} (h1 : ρ = ρ') (h2 : G = G') : ItL P i ρ G K = ItL P i ρ' G' K := by rw [h1, h2]
@[congr] theorem DrL_congr {l : List (LI × List (LI × Bool))} {K : LEnv → LHeap → Prop} (h1 : ρ = ρ') (h2 : G = G') : DrL P l ρ G K = DrL P l ρ' G' K := by rw [h1, h2]
@[congr] theorem OpsL_congr {l : List LI} {K : LEnv → LHeap → Prop} (h1 : ρ = ρ') (h2 : G = G') : OpsL P l ρ G K = OpsL P l ρ' G' K := by rw [h1, h2]
@[congr] theorem W_congr {f n : Nat} {s : LC} {ro : Option Nat} {D : List Nat} {Q : Post} (h1 : ρ = ρ') (h2 : G = G') : W P f n s ro ρ D G Q = W P f n s ro ρ' D G' Q := by rw [h1, h2]
@[congr] theorem wp_congr {f n : Nat} {s : LC} {ro : Option Nat} {D : List Nat} {Q : Post} (h1 : ρ = ρ') (h2 : G = G') : wp P f n ro s ρ D G Q = wp P f n ro s ρ' D G' Q := by rw [h1, h2]
@[congr] theorem CallL_congr {t : LTgt} {a a' : List LV} (h1 : a = a') (h2 : G = G') : CallL P t a G K = CallL P t a' G' K := by rw [h1, h2]
@[congr] theorem binL_congr {op : BinOp} {g : Bool} {t : TypeId} (h1 : x = x') (h2 : y = y') : binL P op g t x y Kv = binL P op g t x' y' Kv := by rw [h1, h2]
@[congr] theorem unL_congr {op : UnOp} (h1 : x = x') : unL op x Kv = unL op x' Kv := by rw [h1]
@[congr] theorem cvL_congr {k : IntKind} (h1 : x = x') : cvL k x Kv = cvL k x' Kv := by rw [h1]
@[congr] theorem readL_congr {n : Nat} {K : List LV → Prop} (h1 : G = G') (h2 : x = x') : readL G x n K = readL G' x' n K := by rw [h1, h2]
@[congr] theorem read1_congr (h1 : G = G') (h2 : x = x') : read1 G x Kv = read1 G' x' Kv := by rw [h1, h2]
@[congr] theorem nthL_congr {l l' : List LV} {i i' : Nat} (h1 : l = l') (h2 : i = i') : nthL l i Kv = nthL l' i' Kv := by rw [h1, h2]
@[congr] theorem writeL_congr {r r' : List LV} {K : LHeap → Prop} (h1 : G = G') (h2 : x = x') (h3 : r = r') : writeL G x r K = writeL G' x' r' K := by rw [h1, h2, h3]
@[congr] theorem rowL_congr {n : Nat} {K : Nat → List LV → Prop} (h1 : G = G') (h2 : x = x') : rowL G n x K = rowL G' n x' K := by rw [h1, h2]
@[congr] theorem bytL_congr {K : List LV → Prop} (h1 : G = G') (h2 : x = x') : bytL G x K = bytL G' x' K := by rw [h1, h2]
@[congr] theorem lenL_congr {K : Nat → Prop} (h1 : G = G') (h2 : x = x') : lenL G x K = lenL G' x' K := by rw [h1, h2]
@[congr] theorem appL_congr {size n n' : Nat} {l l' : List LV} (h1 : G = G') (h2 : x = x') (h3 : n = n') (h4 : l = l') : appL G size x n l K = appL G' size x' n' l' K := by rw [h1, h2, h3, h4]
@[congr] theorem bndL_congr {d d' : Nat} {o : Option Lx} {K : Nat → Prop} (h1 : ρ = ρ') (h2 : d = d') : bndL ρ d o K = bndL ρ' d' o K := by rw [h1, h2]
@[congr] theorem resL_congr {l : List RRes} {K : List LV → Prop} (h1 : ρ = ρ') (h2 : G = G') : resL ρ G l K = resL ρ' G' l K := by rw [h1, h2]
@[congr] theorem takeL_congr {D : List Nat} {K : LHeap → Prop} (h2 : G = G') : takeL D G K = takeL D G' K := by rw [h2]
@[congr] theorem brL_congr {t t' : Bool} {A B : Prop} (h : t = t') : brL t A B = brL t' A B := by rw [h]
@[congr] theorem brV_congr {A B : Prop} (h : x = x') : brV x A B = brV x' A B := by rw [h]
end congr

/-! ### Two ways: what is not gone is not looked at -/
theorem brV_bool' {t : Bool} {A B : Prop} : brV (.bool t) A B = brL t A B := (rfl)
theorem brL_true {A B : Prop} : brL true A B = A := by simp [brL]
theorem brL_false {A B : Prop} : brL false A B = B := by simp [brL]
theorem brL_dec {p : Prop} [Decidable p] {A B : Prop} : brL (decide p) A B = ((p → A) ∧ (¬ p → B)) := by simp [brL]
theorem brL_not {b : Bool} {A B : Prop} : brL (!b) A B = brL b B A := by cases b <;> simp [brL]
theorem brL_and {x y : Bool} {A B : Prop} : brL (x && y) A B = (((x && y) = true → A) ∧ ((x && y) = false → B)) := (rfl)
theorem brL_or {x y : Bool} {A B : Prop} : brL (x || y) A B = (((x || y) = true → A) ∧ ((x || y) = false → B)) := (rfl)
theorem brL_var {b : Bool} {A B : Prop} : brL b A B ↔ (b = true → A) ∧ (b = false → B) := .rfl

/-! ### One place -/
theorem nthL_nil (i : Nat) (K : LV → Prop) : nthL [] i K = False := by simp [nthL]
theorem nthL_zero (v : LV) (l : List LV) (K : LV → Prop) : nthL (v :: l) 0 K = K v := by simp [nthL]
theorem nthL_succ (v : LV) (l : List LV) (i : Nat) (K : LV → Prop) : nthL (v :: l) (i + 1) K = nthL l i K := by simp [nthL]
theorem nthL_map {α : Type} (f : α → LV) (d : α) (l : List α) (i : Nat) (K : LV → Prop) : nthL (l.map f) i K = (i < l.length ∧ K (f (l.getD i d))) := by
  unfold nthL
  by_cases h : i < l.length
  · simp [h]
  · simp [h]
theorem nthL_u (l : List UInt64) (i : Nat) (K : LV → Prop) : nthL (l.map .u) i K = (i < l.length ∧ K (.u (l.getD i 0))) := nthL_map _ _ _ _ _
theorem nthL_b (l : List UInt8) (i : Nat) (K : LV → Prop) : nthL (l.map .b) i K = (i < l.length ∧ K (.b (l.getD i 0))) := nthL_map _ _ _ _ _

theorem nthL_take (l : List LV) (m i : Nat) (K : LV → Prop) : nthL (l.take m) i K = (i < m ∧ nthL l i K) := by
  unfold nthL
  by_cases h : i < m
  · simp [h, List.getElem?_take_of_lt h]
  · simp [h, List.getElem?_take]
theorem nthL_drop (l : List LV) (m i : Nat) (K : LV → Prop) : nthL (l.drop m) i K = nthL l (m + i) K := by
  unfold nthL; simp

/-! ### Operations, each by its operands' values -/
def atC (o : Option LObj) (K : List LV → Nat → Prop) : Prop := match o with
  | some (.cells l st) => K l st
  | _ => False
def atD (o : Option LObj) (K : List LV → Nat → Nat → Nat → Nat → Prop) : Prop := match o with
  | some (.dyn l len esz ver st) => K l len esz ver st
  | _ => False
def cellsL (o : Option (List LV)) (K : List LV → Prop) : Prop := match o with
  | some l => K l
  | none => False
def pickL (c a b : LV) (K : LV → Prop) : Prop := match c with
  | .bool t => match a, b with
    | .bool x, .bool y => K (.bool (match t with | true => x | false => y))
    | x, y => brL t (K x) (K y)
  | _ => False
def chkL (x : LV) (K : LV → Prop) : Prop := match x with
  | .ptr p i => K (.ptr p i)
  | .cptr l i => K (.cptr l i)
  | .fn (.func f) a b => K (.fn (.func f) a b)
  | _ => False
def strL (x : LV) (K : List UInt8 → Prop) : Prop := match x with
  | .str l => K l
  | _ => False
def mkSlL (x y : LV) (K : Nat → Prop) : Prop := match x, y with
  | .i l, .i c => l = c ∧ 0 ≤ l ∧ l ≤ 1048576 ∧ K l.toNat
  | _, _ => False
def bndV (x : LV) (K : Nat → Prop) : Prop := match x with
  | .i n => 0 ≤ n ∧ K n.toNat
  | .u n => K n.toNat
  | _ => False
def slL (G : LHeap) (size : Nat) (x : LV) (lo : (Nat → Prop) → Prop) (hi : Nat → (Nat → Prop) → Prop) (K : LV → Prop) : Prop := match x with
  | .nilSl => lo fun a => hi 0 fun b => a = 0 ∧ b = 0 ∧ K .nilSl
  | .dy p k => atD G[p]? fun _ len esz ver _ => k = ver ∧ esz = size ∧ lo fun a => hi len fun b => a ≤ b ∧ b ≤ len ∧ K (.vw p k a (b - a))
  | .vw p k l0 len => atD G[p]? fun _ _ esz ver _ => k = ver ∧ esz = size ∧ lo fun a => hi len fun b => a ≤ b ∧ b ≤ len ∧ K (.vw p k (l0 + a) (b - a))
  | .lst l len esz => esz = size ∧ lo fun a => hi len fun b => a ≤ b ∧ b ≤ len ∧ K (.lst ((l.drop (a * esz)).take ((b - a) * esz)) (b - a) esz)
  | _ => False
def sl3L (G : LHeap) (size : Nat) (x : LV) (lo : (Nat → Prop) → Prop) (hi : Nat → (Nat → Prop) → Prop) (mx : (Nat → Prop) → Prop) (K : LV → Prop) : Prop := match x with
  | .dy p k => atD G[p]? fun _ len esz ver _ => k = ver ∧ esz = size ∧ lo fun a => hi len fun b => mx fun m => 0 < len ∧ a ≤ b ∧ b ≤ m ∧ m ≤ len ∧ K (.vw p k a (b - a))
  | .lst l len esz => esz = size ∧ lo fun a => hi len fun b => mx fun m => 0 < len ∧ a ≤ b ∧ b ≤ m ∧ m ≤ len ∧ K (.lst ((l.drop (a * esz)).take ((b - a) * esz)) (b - a) esz)
  | _ => False
def offL (off : Nat) (x : LV) (K : LV → Prop) : Prop := match x with
  | .ptr p i => K (.ptr p (i + off))
  | .dptr p k i => K (.dptr p k (i + off))
  | .cptr l i => K (.cptr l (i + off))
  | _ => False
def fldL (g : Bool) (n off : Nat) (x : LV) (K : LV → Prop) : Prop := match x with
  | .agg l => match g with
    | true => off + n ≤ l.length ∧ K (.agg ((l.drop off).take n))
    | false => nthL l off K
  | _ => False
def ixV (G : LHeap) (size : Nat) (x : LV) (n : Int) (K : LV → Prop) : Prop := match x with
  | .dy p k => atD G[p]? fun _ len esz ver _ => k = ver ∧ esz = size ∧ 0 ≤ n ∧ n < len ∧ K (.dptr p k (n.toNat * size))
  | .vw p k lo len => atD G[p]? fun _ _ esz ver _ => k = ver ∧ esz = size ∧ 0 ≤ n ∧ n < len ∧ K (.dptr p k ((lo + n.toNat) * size))
  | .lst l len esz => esz = size ∧ 0 ≤ n ∧ n < len ∧ K (.cptr l (n.toNat * size))
  | _ => False
def ixL (G : LHeap) (size : Nat) (x i : LV) (K : LV → Prop) : Prop := match i with
  | .i n => ixV G size x n K
  | _ => False
def ixSL (x i : LV) (K : LV → Prop) : Prop := match x, i with
  | .str l, .i n => 0 ≤ n ∧ n < l.length ∧ K (.b (l.getD n.toNat 0))
  | .str l, .u n => n.toNat < l.length ∧ K (.b (l.getD n.toNat 0))
  | _, _ => False
def tupL (i : Nat) (x : LV) (K : LV → Prop) : Prop := match x with
  | .tup l => nthL l i K
  | _ => False
def maxL (mx : Bool) (x y : LV) (K : LV → Prop) : Prop := match x, y with
  | .i a, .i b => K (.i (match mx with | true => max a b | false => min a b))
  | .u a, .u b => K (.u (match mx with | true => if a < b then b else a | false => if b < a then b else a))
  | _, _ => False
def lenZ (x : LV) (K : Nat → Prop) : Prop := match x with
  | .i n => 0 ≤ n ∧ n ≤ 1048576 ∧ K n.toNat
  | _ => False
def copyL (G : LHeap) (size : Nat) (d : LV) (n : Nat) (l : List LV) (K : LV → LHeap → Prop) : Prop := match d with
  | .dy p k => atD G[p]? fun r len esz ver st => k = ver ∧ esz = size ∧ K (.i (min n len : Nat)) (G.set p (.dyn (layLV r 0 (l.take (min n len * size))) len esz ver (st + 1)))
  | .vw p k lo len => atD G[p]? fun r len0 esz ver st => k = ver ∧ esz = size ∧ (lo + len) * size ≤ r.length ∧ K (.i (min n len : Nat)) (G.set p (.dyn (layLV r (lo * size) (l.take (min n len * size))) len0 esz ver (st + 1)))
  | _ => False
def goL (P : Program) (f : LV) (args : List LV) (G : LHeap) (K : LV → LHeap → Prop) : Prop := match f with
  | .fn (.func g) a b => CallL P (.fn g) (a ++ args ++ b) G K
  | .fn (.yield p) [] _ => CallL P (.yield p) args G K
  | _ => False
section byOps
variable {P : Program} {ρ : LEnv} {G : LHeap} {K : LV → LHeap → Prop} {x y c a b s d i f : Lx} {l cs z : List LV} {ps : List (Nat × Nat × Lx)} {n size len off : Nat} {lo hi : Option Lx}
theorem OpL_move : OpL P ρ G (.move x) K = K (x.ev ρ) G := (rfl)
theorem OpL_pick : OpL P ρ G (.pick c a b) K = pickL (c.ev ρ) (a.ev ρ) (b.ev ρ) (atG K G) := (rfl)
theorem OpL_alloc : OpL P ρ G (.alloc l) K = K (.ptr G.length 0) (G ++ [.cells l 0]) := (rfl)
theorem OpL_box : OpL P ρ G (.box x) K = cellsL (x.ev ρ).cells fun l => K (.ptr G.length 0) (G ++ [.cells l 0]) := (rfl)
theorem OpL_build : OpL P ρ G (.build cs ps) K = cellsL (fillL ρ cs ps) fun l => K (.agg l) G := (rfl)
theorem OpL_buildSl : OpL P ρ G (.buildSl size len cs ps) K = cellsL (fillL ρ cs ps) fun l => l.length = len * size ∧ K (.dy G.length 0) (G ++ [.dyn l len size 0 0]) := (rfl)
theorem OpL_load1 : OpL P ρ G (.load1 x) K = read1 G (x.ev ρ) (atG K G) := (rfl)
theorem OpL_loadN : OpL P ρ G (.loadN n x) K = readL G (x.ev ρ) n fun l => K (.agg l) G := (rfl)
theorem OpL_store : OpL P ρ G (.store n x y) K = cellsL (y.ev ρ).cells fun l => l.length = n ∧ writeL G (x.ev ρ) l fun G' => K (.tup []) G' := (rfl)
theorem OpL_nilChk : OpL P ρ G (.nilChk x) K = chkL (x.ev ρ) (atG K G) := (rfl)
theorem OpL_bin {op : BinOp} {g : Bool} {t : TypeId} : OpL P ρ G (.bin op g t x y) K = binL P op g t (x.ev ρ) (y.ev ρ) (atG K G) := (rfl)
theorem OpL_un {op : UnOp} : OpL P ρ G (.un op x) K = unL op (x.ev ρ) (atG K G) := (rfl)
theorem OpL_cvInt {k : IntKind} : OpL P ρ G (.cvInt k x) K = cvL k (x.ev ρ) (atG K G) := (rfl)
theorem OpL_cvStr : OpL P ρ G (.cvStr x) K = bytL G (x.ev ρ) fun l => ∃ bs : List UInt8, l = bs.map LV.b ∧ K (.str bs) G := (rfl)
theorem OpL_cvSame : OpL P ρ G (.cvSame x) K = strL (x.ev ρ) fun l => K (.str l) G := (rfl)
theorem OpL_cvBytes : OpL P ρ G (.cvBytes x) K = strL (x.ev ρ) fun l => K (.dy G.length 0) (G ++ [.dyn (l.map LV.b) l.length 1 0 0]) := (rfl)
theorem OpL_mkFunc {g : Nat} {fs gs : List Lx} : OpL P ρ G (.mkFunc g fs gs) K = K (.fn (.func g) (fs.map (·.ev ρ)) (gs.map (·.ev ρ))) G := (rfl)
theorem OpL_mkSl : OpL P ρ G (.mkSl size z a b) K = mkSlL (a.ev ρ) (b.ev ρ) fun n => z.length = size ∧ K (.dy G.length 0) (G ++ [.dyn (repL z n) n size 0 0]) := by
  simp only [OpL, mkSlL]
  cases a.ev ρ <;> cases b.ev ρ <;> rfl
theorem bndL_some {x : Lx} {d : Nat} {K : Nat → Prop} : bndL ρ d (some x) K = bndV (x.ev ρ) K := (rfl)
theorem bndL_none {d : Nat} {K : Nat → Prop} : bndL ρ d none K = K d := (rfl)
theorem OpL_slStr : OpL P ρ G (.slStr x lo hi) K = strL (x.ev ρ) fun l => bndL ρ 0 lo fun a => bndL ρ l.length hi fun b => a ≤ b ∧ b ≤ l.length ∧ K (.str ((l.drop a).take (b - a))) G := (rfl)
theorem OpL_slSl : OpL P ρ G (.slSl size x lo hi) K = slL G size (x.ev ρ) (fun k => bndL ρ 0 lo k) (fun d k => bndL ρ d hi k) (atG K G) := by
  simp only [OpL, slL, atD]
  cases x.ev ρ <;> try rfl
  all_goals (cases G[_]? <;> try rfl)
theorem OpL_slSl3 : OpL P ρ G (.slSl3 size x lo hi y) K = sl3L G size (x.ev ρ) (fun k => bndL ρ 0 lo k) (fun d k => bndL ρ d hi k) (fun k => bndL ρ 0 (some y) k) (atG K G) := by
  simp only [OpL, sl3L, atD]
  cases x.ev ρ <;> try rfl
  all_goals (cases G[_]? <;> try rfl)
theorem OpL_fieldAddr : OpL P ρ G (.fieldAddr off x) K = offL off (x.ev ρ) (atG K G) := (rfl)
theorem OpL_field {g : Bool} : OpL P ρ G (.field g n off x) K = fldL g n off (x.ev ρ) (atG K G) := (rfl)
theorem OpL_ixAddr : OpL P ρ G (.ixAddr size x i) K = ixL G size (x.ev ρ) (i.ev ρ) (atG K G) := by
  simp only [OpL, ixL, ixV, atD]
  cases i.ev ρ <;> try rfl
theorem OpL_ixStr : OpL P ρ G (.ixStr x i) K = ixSL (x.ev ρ) (i.ev ρ) (atG K G) := (rfl)
theorem OpL_extract : OpL P ρ G (.extract n x) K = tupL n (x.ev ρ) (atG K G) := (rfl)
theorem OpL_lenStr : OpL P ρ G (.lenStr x) K = strL (x.ev ρ) fun l => K (.i l.length) G := (rfl)
theorem OpL_lenSl : OpL P ρ G (.lenSl x) K = lenL G (x.ev ρ) fun n => K (.i n) G := (rfl)
theorem OpL_maxi {g : Bool} : OpL P ρ G (.maxi g x y) K = maxL g (x.ev ρ) (y.ev ρ) (atG K G) := (rfl)
theorem OpL_appZ : OpL P ρ G (.appZ size z s x) K = lenZ (x.ev ρ) fun n => z.length = size ∧ appL G size (s.ev ρ) n (repL z n) K := (rfl)
theorem OpL_appG : OpL P ρ G (.appG size s x) K = rowL G size (x.ev ρ) fun n l => n ≤ 1048576 ∧ appL G size (s.ev ρ) n l K := (rfl)
theorem OpL_copy : OpL P ρ G (.copy size d x) K = rowL G size (x.ev ρ) fun n l => copyL G size (d.ev ρ) n l K := by
  simp only [OpL, copyL, atD]
  congr 1
theorem OpL_callV {args : List Lx} : OpL P ρ G (.callV f args) K = goL P (f.ev ρ) (args.map (·.ev ρ)) G K := (rfl)
end byOps

/-! ### Opened at known values alone -/
section opened
variable {P : Program} {G : LHeap} {p k i n size lo len off esz : Nat} {l r new : List LV} {K : List LV → Prop} {K1 : LV → Prop} {KG : LHeap → Prop} {KN : Nat → Prop} {KR : Nat → List LV → Prop} {KV : LV → LHeap → Prop} {KS : List UInt8 → Prop} {lof mxf : (Nat → Prop) → Prop} {hif : Nat → (Nat → Prop) → Prop}
theorem atC_some {l : List LV} {st : Nat} {K : List LV → Nat → Prop} : atC (some (.cells l st)) K = K l st := (rfl)
theorem atD_some {l : List LV} {len esz ver st : Nat} {K : List LV → Nat → Nat → Nat → Nat → Prop} : atD (some (.dyn l len esz ver st)) K = K l len esz ver st := (rfl)
theorem cellsL_some : cellsL (some l) K = K l := (rfl)
theorem pickL_true {a b : LV} : pickL (.bool true) a b K1 = K1 a := by cases a <;> cases b <;> simp [pickL, brL]
theorem pickL_false {a b : LV} : pickL (.bool false) a b K1 = K1 b := by cases a <;> cases b <;> simp [pickL, brL]
theorem pickL_and {t x : Bool} : pickL (.bool t) (.bool x) (.bool false) K1 = K1 (.bool (t && x)) := by cases t <;> rfl
theorem pickL_or {t x : Bool} : pickL (.bool t) (.bool true) (.bool x) K1 = K1 (.bool (t || x)) := by cases t <;> rfl
theorem chkL_ptr : chkL (.ptr p i) K1 = K1 (.ptr p i) := (rfl)
theorem chkL_cptr : chkL (.cptr l i) K1 = K1 (.cptr l i) := (rfl)
theorem chkL_fn {f : Nat} {a b : List LV} : chkL (.fn (.func f) a b) K1 = K1 (.fn (.func f) a b) := (rfl)
theorem strL_str {l : List UInt8} : strL (.str l) KS = KS l := (rfl)
theorem mkSlL_i {a b : Int} : mkSlL (.i a) (.i b) KN = (a = b ∧ 0 ≤ a ∧ a ≤ 1048576 ∧ KN a.toNat) := (rfl)
theorem bndV_i {a : Int} : bndV (.i a) KN = (0 ≤ a ∧ KN a.toNat) := (rfl)
theorem bndV_u {a : UInt64} : bndV (.u a) KN = KN a.toNat := (rfl)
theorem slL_nil : slL G size .nilSl lof hif K1 = (lof fun a => hif 0 fun b => a = 0 ∧ b = 0 ∧ K1 .nilSl) := (rfl)
theorem slL_dy : slL G size (.dy p k) lof hif K1 = (atD G[p]? fun _ len esz ver _ => k = ver ∧ esz = size ∧ lof fun a => hif len fun b => a ≤ b ∧ b ≤ len ∧ K1 (.vw p k a (b - a))) := (rfl)
theorem slL_vw : slL G size (.vw p k lo len) lof hif K1 = (atD G[p]? fun _ _ esz ver _ => k = ver ∧ esz = size ∧ lof fun a => hif len fun b => a ≤ b ∧ b ≤ len ∧ K1 (.vw p k (lo + a) (b - a))) := (rfl)
theorem slL_lst : slL G size (.lst l len esz) lof hif K1 = (esz = size ∧ lof fun a => hif len fun b => a ≤ b ∧ b ≤ len ∧ K1 (.lst ((l.drop (a * esz)).take ((b - a) * esz)) (b - a) esz)) := (rfl)
theorem sl3L_dy : sl3L G size (.dy p k) lof hif mxf K1 = (atD G[p]? fun _ len esz ver _ => k = ver ∧ esz = size ∧ lof fun a => hif len fun b => mxf fun m => 0 < len ∧ a ≤ b ∧ b ≤ m ∧ m ≤ len ∧ K1 (.vw p k a (b - a))) := (rfl)
theorem sl3L_lst : sl3L G size (.lst l len esz) lof hif mxf K1 = (esz = size ∧ lof fun a => hif len fun b => mxf fun m => 0 < len ∧ a ≤ b ∧ b ≤ m ∧ m ≤ len ∧ K1 (.lst ((l.drop (a * esz)).take ((b - a) * esz)) (b - a) esz)) := (rfl)
theorem offL_ptr : offL off (.ptr p i) K1 = K1 (.ptr p (i + off)) := (rfl)
theorem offL_dptr : offL off (.dptr p k i) K1 = K1 (.dptr p k (i + off)) := (rfl)
theorem offL_cptr : offL off (.cptr l i) K1 = K1 (.cptr l (i + off)) := (rfl)
theorem fldL_true : fldL true n off (.agg l) K1 = (off + n ≤ l.length ∧ K1 (.agg ((l.drop off).take n))) := (rfl)
theorem fldL_false : fldL false n off (.agg l) K1 = nthL l off K1 := (rfl)
theorem ixL_i {x : LV} {n : Int} : ixL G size x (.i n) K1 = ixV G size x n K1 := (rfl)
theorem ixV_dy {n : Int} : ixV G size (.dy p k) n K1 = (atD G[p]? fun _ len esz ver _ => k = ver ∧ esz = size ∧ 0 ≤ n ∧ n < len ∧ K1 (.dptr p k (n.toNat * size))) := (rfl)
theorem ixV_vw {n : Int} : ixV G size (.vw p k lo len) n K1 = (atD G[p]? fun _ _ esz ver _ => k = ver ∧ esz = size ∧ 0 ≤ n ∧ n < len ∧ K1 (.dptr p k ((lo + n.toNat) * size))) := (rfl)
theorem ixV_lst {n : Int} : ixV G size (.lst l len esz) n K1 = (esz = size ∧ 0 ≤ n ∧ n < len ∧ K1 (.cptr l (n.toNat * size))) := (rfl)
theorem ixSL_i {l : List UInt8} {n : Int} : ixSL (.str l) (.i n) K1 = (0 ≤ n ∧ n < l.length ∧ K1 (.b (l.getD n.toNat 0))) := (rfl)
theorem ixSL_u {l : List UInt8} {n : UInt64} : ixSL (.str l) (.u n) K1 = (n.toNat < l.length ∧ K1 (.b (l.getD n.toNat 0))) := (rfl)
theorem tupL_tup : tupL i (.tup l) K1 = nthL l i K1 := (rfl)
theorem maxL_it {a b : Int} : maxL true (.i a) (.i b) K1 = K1 (.i (max a b)) := (rfl)
theorem maxL_if {a b : Int} : maxL false (.i a) (.i b) K1 = K1 (.i (min a b)) := (rfl)
theorem maxL_ut {a b : UInt64} : maxL true (.u a) (.u b) K1 = K1 (.u (if a < b then b else a)) := (rfl)
theorem maxL_uf {a b : UInt64} : maxL false (.u a) (.u b) K1 = K1 (.u (if b < a then b else a)) := (rfl)
theorem lenZ_i {n : Int} : lenZ (.i n) KN = (0 ≤ n ∧ n ≤ 1048576 ∧ KN n.toNat) := (rfl)
theorem copyL_dy {n : Nat} : copyL G size (.dy p k) n l KV = (atD G[p]? fun r len esz ver st => k = ver ∧ esz = size ∧ KV (.i (min n len : Nat)) (G.set p (.dyn (layLV r 0 (l.take (min n len * size))) len esz ver (st + 1)))) := (rfl)
theorem copyL_vw {n : Nat} : copyL G size (.vw p k lo len) n l KV = (atD G[p]? fun r len0 esz ver st => k = ver ∧ esz = size ∧ (lo + len) * size ≤ r.length ∧ KV (.i (min n len : Nat)) (G.set p (.dyn (layLV r (lo * size) (l.take (min n len * size))) len0 esz ver (st + 1)))) := (rfl)
theorem goL_fn {g : Nat} {a b args : List LV} : goL P (.fn (.func g) a b) args G KV = CallL P (.fn g) (a ++ args ++ b) G KV := (rfl)
theorem goL_yield {b args : List LV} : goL P (.fn (.yield p) [] b) args G KV = CallL P (.yield p) args G KV := (rfl)
theorem readL_ptr : readL G (.ptr p i) n K = atC G[p]? fun l _ => i + n ≤ l.length ∧ K ((l.drop i).take n) := by
  simp only [readL, atC]; cases G[p]? <;> try rfl
theorem readL_dptr : readL G (.dptr p k i) n K = atD G[p]? fun l _ _ ver _ => k = ver ∧ i + n ≤ l.length ∧ K ((l.drop i).take n) := by
  simp only [readL, atD]; cases G[p]? <;> try rfl
theorem readL_cptr : readL G (.cptr l i) n K = (i + n ≤ l.length ∧ K ((l.drop i).take n)) := (rfl)
theorem read1_ptr : read1 G (.ptr p i) K1 = atC G[p]? fun l _ => nthL l i K1 := by
  simp only [read1, atC]; cases G[p]? <;> try rfl
theorem read1_dptr : read1 G (.dptr p k i) K1 = atD G[p]? fun l _ _ ver _ => k = ver ∧ nthL l i K1 := by
  simp only [read1, atD]; cases G[p]? <;> try rfl
theorem read1_cptr : read1 G (.cptr l i) K1 = nthL l i K1 := (rfl)
theorem writeL_ptr : writeL G (.ptr p i) r KG = atC G[p]? fun l st => i + r.length ≤ l.length ∧ KG (G.set p (.cells (layLV l i r) (st + 1))) := by
  simp only [writeL, atC]; cases G[p]? <;> try rfl
theorem writeL_dptr : writeL G (.dptr p k i) r KG = atD G[p]? fun l len esz ver st => k = ver ∧ i + r.length ≤ l.length ∧ KG (G.set p (.dyn (layLV l i r) len esz ver (st + 1))) := by
  simp only [writeL, atD]; cases G[p]? <;> try rfl
theorem rowL_nil : rowL G size .nilSl KR = KR 0 [] := (rfl)
theorem rowL_dy : rowL G size (.dy p k) KR = atD G[p]? fun l len esz ver _ => k = ver ∧ esz = size ∧ KR len l := by
  simp only [rowL, atD]; cases G[p]? <;> try rfl
theorem rowL_vw : rowL G size (.vw p k lo len) KR = atD G[p]? fun l _ esz ver _ => k = ver ∧ esz = size ∧ lo * esz + len * esz ≤ l.length ∧ KR len ((l.drop (lo * esz)).take (len * esz)) := by
  simp only [rowL, atD]; cases G[p]? <;> try rfl
theorem rowL_lst : rowL G size (.lst l len esz) KR = (esz = size ∧ KR len l) := (rfl)
theorem rowL_str {s : List UInt8} : rowL G size (.str s) KR = (size = 1 ∧ KR s.length (s.map LV.b)) := (rfl)
theorem bytL_nil : bytL G .nilSl K = K [] := (rfl)
theorem bytL_dy : bytL G (.dy p k) K = atD G[p]? fun l _ esz ver _ => k = ver ∧ esz = 1 ∧ K l := by
  simp only [bytL, atD]; cases G[p]? <;> try rfl
theorem bytL_lst : bytL G (.lst l len esz) K = (esz = 1 ∧ len ≠ 0 ∧ K l) := (rfl)
theorem lenL_nil : lenL G .nilSl KN = KN 0 := (rfl)
theorem lenL_dy : lenL G (.dy p k) KN = atD G[p]? fun _ len _ ver _ => k = ver ∧ KN len := by
  simp only [lenL, atD]; cases G[p]? <;> try rfl
theorem lenL_vw : lenL G (.vw p k lo len) KN = atD G[p]? fun _ _ _ ver _ => k = ver ∧ KN len := by
  simp only [lenL, atD]; cases G[p]? <;> try rfl
theorem lenL_lst : lenL G (.lst l len esz) KN = KN len := (rfl)
theorem appL_nil : appL G size .nilSl n new KV = KV (.dy G.length 0) (G ++ [.dyn new n size 0 0]) := (rfl)
theorem appL_dy : appL G size (.dy p k) n new KV = atD G[p]? fun l len esz ver st => k = ver ∧ (esz = size ∧ 0 < esz) ∧ len ≤ 1000000000 ∧ KV (.dy p (ver + 1)) (G.set p (.dyn (l ++ new) (len + n) esz (ver + 1) (st + 1))) := by
  simp only [appL, atD]; cases G[p]? <;> try rfl
variable {op : BinOp} {g : Bool} {t : TypeId}
theorem binL_uu {a b : UInt64} : binL P op g t (.u a) (.u b) K1 = uuL op a b K1 := (rfl)
theorem binL_ii {a b : Int} : binL P op g t (.i a) (.i b) K1 = iiL op a b K1 := (rfl)
theorem binL_bb {a b : UInt8} : binL P op g t (.b a) (.b b) K1 = bbL op a b K1 := (rfl)
theorem binL_ss {a b : List UInt8} : binL P op g t (.str a) (.str b) K1 = ssL op a b K1 := (rfl)
theorem binL_kk {k k' : IntKind} {a b : Int} : binL P op g t (.int k a) (.int k' b) K1 = (k = k' ∧ kkL op a b K1) := (rfl)
theorem binL_shl {a : UInt64} {s : Int} : binL P .shl g t (.u a) (.i s) K1 = (0 ≤ s ∧ K1 (.u (shlU a s.toNat))) := (rfl)
theorem binL_shr {a : UInt64} {s : Int} : binL P .shr g t (.u a) (.i s) K1 = (0 ≤ s ∧ K1 (.u (shrU a s.toNat))) := (rfl)
theorem binL_ishl {a : Int} {s : UInt64} : binL P .shl g t (.i a) (.u s) K1 = (0 ≤ a ∧ s.toNat ≤ 64 ∧ inI (a * 2 ^ s.toNat) ∧ K1 (.i (a * 2 ^ s.toNat))) := (rfl)
theorem binL_ishr {a : Int} {s : UInt64} : binL P .shr g t (.i a) (.u s) K1 = (0 ≤ a ∧ s.toNat ≤ 64 ∧ K1 (.i (a / 2 ^ s.toNat))) := (rfl)
theorem binL_oeq {a b : Bool} : binL P .eql g t (.bool a) (.bool b) K1 = (eqA P g t (.bool a) (.bool b) = some (a == b) ∧ K1 (.bool (a == b))) := (rfl)
theorem binL_one {a b : Bool} : binL P .neq g t (.bool a) (.bool b) K1 = (eqA P g t (.bool a) (.bool b) = some (a == b) ∧ K1 (.bool (!(a == b)))) := (rfl)
theorem binL_nn : binL P op g t .nilPtr .nilPtr K1 = nilL P op g t .nilPtr .nilPtr true K1 := (rfl)
theorem binL_pn : binL P op g t (.ptr p i) .nilPtr K1 = nilL P op g t (.ptr 0 0 0) .nilPtr false K1 := (rfl)
theorem binL_sn : binL P op g t .nilSl .nilSl K1 = nilL P op g t .nilSl .nilSl true K1 := (rfl)
theorem unL_not {b : Bool} : unL .not (.bool b) K1 = K1 (.bool (!b)) := (rfl)
theorem unL_negu {a : UInt64} : unL .neg (.u a) K1 = K1 (.u (subU 0 a)) := (rfl)
theorem unL_negi {a : Int} : unL .neg (.i a) K1 = (inI (-a) ∧ K1 (.i (-a))) := (rfl)
theorem unL_xor {a : UInt64} : unL .xor (.u a) K1 = K1 (.u (notU a)) := (rfl)
theorem cvL_uu {a : UInt64} : cvL .u64 (.u a) K1 = K1 (.u a) := (rfl)
theorem cvL_ui {a : Int} : cvL .u64 (.i a) K1 = K1 (.u (iU a)) := (rfl)
theorem cvL_ub {a : UInt8} : cvL .u64 (.b a) K1 = K1 (.u (bU a)) := (rfl)
theorem cvL_iu {a : UInt64} : cvL .i64 (.u a) K1 = (a.toNat < 9223372036854775808 ∧ K1 (.i a.toNat)) := (rfl)
theorem cvL_ii {a : Int} : cvL .i64 (.i a) K1 = (inI a ∧ K1 (.i a)) := (rfl)
theorem cvL_ib {a : UInt8} : cvL .i64 (.b a) K1 = K1 (.i a.toNat) := (rfl)
theorem cvL_bu {a : UInt64} : cvL .u8 (.u a) K1 = K1 (.b (uB a)) := (rfl)
theorem cvL_bi {a : Int} : cvL .u8 (.i a) K1 = K1 (.b (iB a)) := (rfl)
theorem cvL_bb {a : UInt8} : cvL .u8 (.b a) K1 = K1 (.b a) := (rfl)
theorem cvL_bk {k : IntKind} {a : Int} : cvL .u8 (.int k a) K1 = K1 (.b (iB a)) := (rfl)
end opened
/-! ### The code's words -/
section code
variable {P : Program} {f n : Nat} {ro : Option Nat} {ρ ρ' : LEnv} {D : List Nat} {G G' : LHeap} {Q : Post} {a b c : LC} {x : Lx} {id i t d : Nat} {l : List LI} {ds : List (LI × List (LI × Bool))} {cs : List (LI × Bool)} {K : LEnv → LHeap → Prop} {KV : LV → LHeap → Prop} {KL : List LV → Prop} {KG : LHeap → Prop} {Nx : LEnv → List Nat → LHeap → Prop} {rs : List RRes} {o : LOp} {od : Option Nat} {v w : LV} {vs : List LV} {it : LI}
theorem wp_skip : wp P f n ro .skip ρ D G Q = Q .normal ρ D G := (rfl)
theorem wp_ops : wp P f n ro (.ops l) ρ D G Q = OpsL P l ρ G (norQ Q D) := (rfl)
theorem wp_seq : wp P f n ro (.seq a b) ρ D G Q = wp P f n ro a ρ D G (seqQ P f n ro b Q) := (rfl)
theorem wp_cond : wp P f n ro (.cond x a b) ρ D G Q = brV (x.ev ρ) (wp P f n ro a ρ D G Q) (wp P f n ro b ρ D G Q) := (rfl)
theorem wp_block : wp P f n ro (.block id c) ρ D G Q = wp P f n ro c ρ D G (blkQ id Q) := (rfl)
theorem wp_draw : wp P f n ro (.draw ds) ρ D G Q = DrL P ds ρ G (norQ Q D) := (rfl)
theorem wp_exit : wp P f n ro (.exit id) ρ D G Q = Q (.exit id) ρ D G := (rfl)
theorem wp_scope : wp P f n ro (.scope c) ρ D G Q = wp P f n ro c ρ D G Q := (rfl)
theorem wp_label : wp P f n ro .label ρ D G Q = Q .normal ρ D G := (rfl)
theorem wp_ret : wp P f n ro .ret ρ D G Q = Q .ret ρ D G := (rfl)
theorem wp_stuck : wp P f n ro .stuck ρ D G Q = False := (rfl)
theorem wp_loop : wp P f n ro (.loop c) ρ D G Q = W P f n (.loop c) ro ρ D G Q := (rfl)
theorem wp_range {ps : List Nat} : wp P f n ro (.rangeF x ps a b) ρ D G Q = W P f n (.rangeF x ps a b) ro ρ D G Q := (rfl)
theorem seqQ_n : seqQ P f n ro b Q .normal ρ D G = wp P f n ro b ρ D G Q := (rfl)
theorem seqQ_e : seqQ P f n ro b Q (.exit i) ρ D G = Q (.exit i) ρ D G := (rfl)
theorem seqQ_r : seqQ P f n ro b Q .ret ρ D G = Q .ret ρ D G := (rfl)
theorem blkQ_n : blkQ id Q .normal ρ D G = Q .normal ρ D G := (rfl)
theorem blkQ_e : blkQ id Q (.exit i) ρ D G = if i = id then Q .normal ρ D G else Q (.exit i) ρ D G := (rfl)
theorem blkQ_r : blkQ id Q .ret ρ D G = Q .ret ρ D G := (rfl)
theorem nxQ_n : nxQ Nx Q .normal ρ D G = Nx ρ D G := (rfl)
theorem nxQ_e : nxQ Nx Q (.exit i) ρ D G = Q (.exit i) ρ D G := (rfl)
theorem nxQ_r : nxQ Nx Q .ret ρ D G = Q .ret ρ D G := (rfl)
theorem endQ_n : endQ rs KV .normal ρ D G = takeL D G (takK ρ rs KV) := (rfl)
theorem endQ_r : endQ rs KV .ret ρ D G = takeL D G (takK ρ rs KV) := (rfl)
theorem endQ_e : endQ rs KV (.exit i) ρ D G = False := (rfl)
theorem norQ_app : norQ Q D ρ G = Q .normal ρ D G := (rfl)
theorem takeL_nil : takeL [] G KG = KG G := (rfl)
theorem takeL_cons : takeL (d :: D) G KG = takM G[d]? (takeL D (G.set d (.defd false)) KG) := (rfl)
theorem takM_some {A : Prop} : takM (some (.defd true)) A = A := (rfl)
theorem takK_app : takK ρ rs KV G = resL ρ G rs (endK KV G) := (rfl)
theorem endK_app : endK KV G vs = KV (oneL vs) G := (rfl)
theorem resL_nil : resL ρ G [] KL = KL [] := (rfl)
theorem resL_tmp : resL ρ G (.tmp t :: rs) KL = resL ρ G rs (tmpK ρ t KL) := (rfl)
theorem resL_c1 : resL ρ G (.cell1 t :: rs) KL = read1 G (lk ρ t) (c1K ρ G rs KL) := (rfl)
theorem resL_cN : resL ρ G (.cellN t n :: rs) KL = readL G (lk ρ t) n (cnK ρ G rs KL) := (rfl)
theorem tmpK_app : tmpK ρ t KL vs = KL (lk ρ t :: vs) := (rfl)
theorem conK_app : conK v KL vs = KL (v :: vs) := (rfl)
theorem c1K_app : c1K ρ G rs KL v = resL ρ G rs (conK v KL) := (rfl)
theorem cnK_app : cnK ρ G rs KL vs = resL ρ G rs (conK (.agg vs) KL) := (rfl)
theorem oneL_1 : oneL [v] = v := (rfl)
theorem oneL_0 : oneL [] = .tup [] := (rfl)
theorem oneL_2 : oneL (v :: w :: vs) = .tup (v :: w :: vs) := (rfl)
theorem OpsL_nil : OpsL P [] ρ G K = K ρ G := (rfl)
theorem OpsL_cons : OpsL P (it :: l) ρ G K = ItL P it ρ G (opsK P l K) := (rfl)
theorem opsK_app : opsK P l K ρ G = OpsL P l ρ G K := (rfl)
theorem ItL_n : ItL P ⟨od, none, o⟩ ρ G K = OpL P ρ G o (itK ρ od K) := (rfl)
theorem ItL_t : ItL P ⟨od, some (t, true), o⟩ ρ G K = brV (lk ρ t) (OpL P (setL t (.bool true) ρ) G o (itK (setL t (.bool true) ρ) od K)) (itK (setL t (.bool false) ρ) od K (.tup []) G) := (rfl)
theorem ItL_f : ItL P ⟨od, some (t, false), o⟩ ρ G K = brV (lk ρ t) (itK (setL t (.bool true) ρ) od K (.tup []) G) (OpL P (setL t (.bool false) ρ) G o (itK (setL t (.bool false) ρ) od K)) := (rfl)
theorem itK_some : itK ρ (some d) K v G = K ((d, v) :: ρ) G := (rfl)
theorem itK_none : itK ρ none K v G = K ρ G := (rfl)
theorem atG_app : atG KV G v = KV v G := (rfl)
theorem DrL_nil : DrL P [] ρ G K = K ρ G := (rfl)
theorem DrL_cons : DrL P ((it, cs) :: ds) ρ G K = ItL P it ρ G (drK P cs ds ρ G K) := (rfl)
theorem drK_app : drK P cs ds ρ G K ρ' G' = (cksL ρ G G' cs ∧ DrL P ds ρ' G' K) := (rfl)
theorem ev_t : (Lx.t i).ev ρ = lk ρ i := (rfl)
theorem ev_c : (Lx.c v).ev ρ = v := (rfl)
theorem argsL_nil : argsL [] i = [] := (rfl)
theorem argsL_cons : argsL (v :: vs) i = (i, v) :: argsL vs (i + 1) := (rfl)
theorem setL_cons : setL t v ((d, w) :: ρ) = if t = d then (d, v) :: ρ else (d, w) :: setL t v ρ := (rfl)
end code
section nums
variable {K : LV → Prop}
theorem uuL_add {a b : UInt64} : uuL .add a b K = K (.u (addU a b)) := (rfl)
theorem uuL_sub {a b : UInt64} : uuL .sub a b K = K (.u (subU a b)) := (rfl)
theorem uuL_mul {a b : UInt64} : uuL .mul a b K = K (.u (mulU a b)) := (rfl)
theorem uuL_quo {a b : UInt64} : uuL .quo a b K = (b ≠ 0 ∧ K (.u (divU a b))) := (rfl)
theorem uuL_rem {a b : UInt64} : uuL .rem a b K = (b ≠ 0 ∧ K (.u (modU a b))) := (rfl)
theorem uuL_shl {a b : UInt64} : uuL .shl a b K = K (.u (shlU a b.toNat)) := (rfl)
theorem uuL_shr {a b : UInt64} : uuL .shr a b K = K (.u (shrU a b.toNat)) := (rfl)
theorem uuL_andNot {a b : UInt64} : uuL .andNot a b K = K (.u (andU a (notU b))) := (rfl)
theorem uuL_and {a b : UInt64} : uuL .and a b K = K (.u (andU a b)) := (rfl)
theorem uuL_or {a b : UInt64} : uuL .or a b K = K (.u (orU a b)) := (rfl)
theorem uuL_xor {a b : UInt64} : uuL .xor a b K = K (.u (xorU a b)) := (rfl)
theorem uuL_eql {a b : UInt64} : uuL .eql a b K = K (.bool (decide (a = b))) := (rfl)
theorem uuL_neq {a b : UInt64} : uuL .neq a b K = K (.bool (decide (a ≠ b))) := (rfl)
theorem uuL_lss {a b : UInt64} : uuL .lss a b K = K (.bool (decide (a < b))) := (rfl)
theorem uuL_leq {a b : UInt64} : uuL .leq a b K = K (.bool (decide (a ≤ b))) := (rfl)
theorem uuL_gtr {a b : UInt64} : uuL .gtr a b K = K (.bool (decide (b < a))) := (rfl)
theorem uuL_geq {a b : UInt64} : uuL .geq a b K = K (.bool (decide (b ≤ a))) := (rfl)
theorem bbL_add {a b : UInt8} : bbL .add a b K = K (.b (addB a b)) := (rfl)
theorem bbL_sub {a b : UInt8} : bbL .sub a b K = K (.b (subB a b)) := (rfl)
theorem bbL_and {a b : UInt8} : bbL .and a b K = K (.b (andB a b)) := (rfl)
theorem bbL_or {a b : UInt8} : bbL .or a b K = K (.b (orB a b)) := (rfl)
theorem bbL_eql {a b : UInt8} : bbL .eql a b K = K (.bool (decide (a = b))) := (rfl)
theorem bbL_neq {a b : UInt8} : bbL .neq a b K = K (.bool (decide (a ≠ b))) := (rfl)
theorem bbL_lss {a b : UInt8} : bbL .lss a b K = K (.bool (decide (a < b))) := (rfl)
theorem bbL_leq {a b : UInt8} : bbL .leq a b K = K (.bool (decide (a ≤ b))) := (rfl)
theorem bbL_gtr {a b : UInt8} : bbL .gtr a b K = K (.bool (decide (b < a))) := (rfl)
theorem bbL_geq {a b : UInt8} : bbL .geq a b K = K (.bool (decide (b ≤ a))) := (rfl)
theorem iiL_add {a b : Int} : iiL .add a b K = (inI (a + b) ∧ K (.i (a + b))) := (rfl)
theorem iiL_sub {a b : Int} : iiL .sub a b K = (inI (a - b) ∧ K (.i (a - b))) := (rfl)
theorem iiL_mul {a b : Int} : iiL .mul a b K = (inI (a * b) ∧ K (.i (a * b))) := (rfl)
theorem iiL_quo {a b : Int} : iiL .quo a b K = (b ≠ 0 ∧ inI (a.tdiv b) ∧ K (.i (a.tdiv b))) := (rfl)
theorem iiL_rem {a b : Int} : iiL .rem a b K = (b ≠ 0 ∧ K (.i (a.tmod b))) := (rfl)
theorem iiL_shl {a b : Int} : iiL .shl a b K = (0 ≤ a ∧ 0 ≤ b ∧ b ≤ 64 ∧ inI (a * 2 ^ b.toNat) ∧ K (.i (a * 2 ^ b.toNat))) := (rfl)
theorem iiL_shr {a b : Int} : iiL .shr a b K = (0 ≤ a ∧ 0 ≤ b ∧ b ≤ 64 ∧ K (.i (a / 2 ^ b.toNat))) := (rfl)
theorem iiL_eql {a b : Int} : iiL .eql a b K = K (.bool (decide (a = b))) := (rfl)
theorem iiL_neq {a b : Int} : iiL .neq a b K = K (.bool (decide (a ≠ b))) := (rfl)
theorem iiL_lss {a b : Int} : iiL .lss a b K = K (.bool (decide (a < b))) := (rfl)
theorem iiL_leq {a b : Int} : iiL .leq a b K = K (.bool (decide (a ≤ b))) := (rfl)
theorem iiL_gtr {a b : Int} : iiL .gtr a b K = K (.bool (decide (b < a))) := (rfl)
theorem iiL_geq {a b : Int} : iiL .geq a b K = K (.bool (decide (b ≤ a))) := (rfl)
theorem kkL_eql {a b : Int} : kkL .eql a b K = K (.bool (decide (a = b))) := (rfl)
theorem kkL_neq {a b : Int} : kkL .neq a b K = K (.bool (decide (a ≠ b))) := (rfl)
theorem kkL_lss {a b : Int} : kkL .lss a b K = K (.bool (decide (a < b))) := (rfl)
theorem kkL_leq {a b : Int} : kkL .leq a b K = K (.bool (decide (a ≤ b))) := (rfl)
theorem kkL_gtr {a b : Int} : kkL .gtr a b K = K (.bool (decide (b < a))) := (rfl)
theorem kkL_geq {a b : Int} : kkL .geq a b K = K (.bool (decide (b ≤ a))) := (rfl)
theorem ssL_add {a b : List UInt8} : ssL .add a b K = (a.length + b.length ≤ 1000000000 ∧ K (.str (a ++ b))) := (rfl)
theorem ssL_eql {a b : List UInt8} : ssL .eql a b K = K (.bool (decide (a = b))) := (rfl)
theorem ssL_neq {a b : List UInt8} : ssL .neq a b K = K (.bool (decide (a ≠ b))) := (rfl)
theorem nilL_eql {P : Program} {g : Bool} {t : TypeId} {a b : AV} {r : Bool} : nilL P .eql g t a b r K = (eqA P g t a b = some r ∧ K (.bool r)) := (rfl)
theorem nilL_neq {P : Program} {g : Bool} {t : TypeId} {a b : AV} {r : Bool} : nilL P .neq g t a b r K = (eqA P g t a b = some r ∧ K (.bool (!r))) := (rfl)
end nums
section congr2
variable {P : Program} {G G' : LHeap} {x x' y y' z z' : LV} {K : LV → LHeap → Prop} {Kv : LV → Prop} {n n' size : Nat}
@[congr] theorem atC_congr {o o' : Option LObj} {K : List LV → Nat → Prop} (h : o = o') : atC o K = atC o' K := by rw [h]
@[congr] theorem atD_congr {o o' : Option LObj} {K : List LV → Nat → Nat → Nat → Nat → Prop} (h : o = o') : atD o K = atD o' K := by rw [h]
@[congr] theorem cellsL_congr {o o' : Option (List LV)} {K : List LV → Prop} (h : o = o') : cellsL o K = cellsL o' K := by rw [h]
@[congr] theorem pickL_congr (h1 : x = x') (h2 : y = y') (h3 : z = z') : pickL x y z Kv = pickL x' y' z' Kv := by rw [h1, h2, h3]
@[congr] theorem chkL_congr (h1 : x = x') : chkL x Kv = chkL x' Kv := by rw [h1]
@[congr] theorem strL_congr {K : List UInt8 → Prop} (h1 : x = x') : strL x K = strL x' K := by rw [h1]
@[congr] theorem mkSlL_congr {K : Nat → Prop} (h1 : x = x') (h2 : y = y') : mkSlL x y K = mkSlL x' y' K := by rw [h1, h2]
@[congr] theorem bndV_congr {K : Nat → Prop} (h1 : x = x') : bndV x K = bndV x' K := by rw [h1]
@[congr] theorem slL_congr {lo : (Nat → Prop) → Prop} {hi : Nat → (Nat → Prop) → Prop} (h1 : G = G') (h2 : x = x') : slL G size x lo hi Kv = slL G' size x' lo hi Kv := by rw [h1, h2]
@[congr] theorem sl3L_congr {lo mx : (Nat → Prop) → Prop} {hi : Nat → (Nat → Prop) → Prop} (h1 : G = G') (h2 : x = x') : sl3L G size x lo hi mx Kv = sl3L G' size x' lo hi mx Kv := by rw [h1, h2]
@[congr] theorem offL_congr (h1 : x = x') : offL n x Kv = offL n x' Kv := by rw [h1]
@[congr] theorem fldL_congr {g : Bool} {m : Nat} (h1 : x = x') : fldL g n m x Kv = fldL g n m x' Kv := by rw [h1]
@[congr] theorem ixL_congr (h1 : G = G') (h2 : x = x') (h3 : y = y') : ixL G size x y Kv = ixL G' size x' y' Kv := by rw [h1, h2, h3]
@[congr] theorem ixV_congr {i i' : Int} (h1 : G = G') (h2 : x = x') (h3 : i = i') : ixV G size x i Kv = ixV G' size x' i' Kv := by rw [h1, h2, h3]
@[congr] theorem ixSL_congr (h2 : x = x') (h3 : y = y') : ixSL x y Kv = ixSL x' y' Kv := by rw [h2, h3]
@[congr] theorem tupL_congr (h1 : x = x') : tupL n x Kv = tupL n x' Kv := by rw [h1]
@[congr] theorem maxL_congr {g : Bool} (h2 : x = x') (h3 : y = y') : maxL g x y Kv = maxL g x' y' Kv := by rw [h2, h3]
@[congr] theorem lenZ_congr {K : Nat → Prop} (h1 : x = x') : lenZ x K = lenZ x' K := by rw [h1]
@[congr] theorem copyL_congr {l l' : List LV} (h1 : G = G') (h2 : x = x') (h3 : n = n') (h4 : l = l') : copyL G size x n l K = copyL G' size x' n' l' K := by rw [h1, h2, h3, h4]
@[congr] theorem goL_congr {l l' : List LV} (h1 : x = x') (h2 : l = l') (h3 : G = G') : goL P x l G K = goL P x' l' G' K := by rw [h1, h2, h3]
end congr2

/-- Rows of limbs, by value. -/
def LU (a : List UInt64) : LV := .lst (a.map .u) a.length 1
theorem dat_us (a : List UInt64) : dats (a.map LV.u) = true := dats_map (fun _ => rfl) a
theorem dat_bs (a : List UInt8) : dats (a.map LV.b) = true := dats_map (fun _ => rfl) a
theorem scal_us (a : List UInt64) : (a.map LV.u).all LV.scal = true := by induction a with
  | nil => rfl
  | cons x l ih => simp [LV.scal]
theorem dat_us_take (a : List UInt64) (n : Nat) : dats ((a.map LV.u).take n) = true := dats_take n (dat_us a)
theorem dat_us_drop (a : List UInt64) (n : Nat) : dats ((a.map LV.u).drop n) = true := dats_drop n (dat_us a)
theorem dat_bs_take (a : List UInt8) (n : Nat) : dats ((a.map LV.b).take n) = true := dats_take n (dat_bs a)
theorem dat_bs_drop (a : List UInt8) (n : Nat) : dats ((a.map LV.b).drop n) = true := dats_drop n (dat_bs a)
theorem dat_app (a b : List LV) : dats (a ++ b) = (dats a && dats b) := by
  induction a with
  | nil => simp [dats]
  | cons x a ih => simp [dats, ih, Bool.and_assoc]
theorem layLV_zero (l r : List LV) : layLV l 0 r = r ++ l.drop r.length := by simp [layLV]
theorem layLV_succ (v : LV) (l r : List LV) (i : Nat) : layLV (v :: l) (i + 1) r = v :: layLV l i r := by
  unfold layLV
  rw [show i + 1 + r.length = (i + r.length) + 1 from by omega]
  simp
attribute [simp] nthL_take nthL_drop dat_us_take dat_us_drop dat_bs_take dat_bs_drop dat_app cksL ckL ckC keptL tgtL LObj.stp LObj.st nthL_nil nthL_zero nthL_succ nthL_u nthL_b lk_nil lk_cons fillL LV.cells subV subVs SelR notP shV shVs frV frVs bor bors LV.dat dats LV.scal LV.sim sims dat_us dat_bs scal_us layLV_zero layLV_succ LU inI
attribute [simp] brV_bool' brL_true brL_false brL_dec brL_not brL_and brL_or
attribute [simp ↓] brV_bool' brL_true brL_false brL_not nthL_take nthL_drop nthL_zero nthL_succ nthL_u nthL_b
attribute [simp ↓] OpL_move OpL_pick OpL_alloc OpL_box OpL_build OpL_buildSl OpL_load1 OpL_loadN OpL_store OpL_nilChk OpL_bin OpL_un OpL_cvInt OpL_cvStr OpL_cvSame OpL_cvBytes OpL_mkFunc OpL_mkSl bndL_some bndL_none OpL_slStr OpL_slSl OpL_slSl3 OpL_fieldAddr OpL_field OpL_ixAddr OpL_ixStr OpL_extract OpL_lenStr OpL_lenSl OpL_maxi OpL_appZ OpL_appG OpL_copy OpL_callV
attribute [simp] atC_some atD_some cellsL_some pickL_true pickL_false pickL_and pickL_or chkL_ptr chkL_cptr chkL_fn strL_str mkSlL_i bndV_i bndV_u slL_nil slL_dy slL_vw slL_lst sl3L_dy sl3L_lst offL_ptr offL_dptr offL_cptr fldL_true fldL_false ixL_i ixV_dy ixV_vw ixV_lst ixSL_i ixSL_u tupL_tup maxL_it maxL_if maxL_ut maxL_uf lenZ_i copyL_dy copyL_vw goL_fn goL_yield readL_ptr readL_dptr readL_cptr read1_ptr read1_dptr read1_cptr writeL_ptr writeL_dptr rowL_nil rowL_dy rowL_vw rowL_lst rowL_str bytL_nil bytL_dy bytL_lst lenL_nil lenL_dy lenL_vw lenL_lst appL_nil appL_dy binL_uu binL_ii binL_bb binL_ss binL_kk binL_shl binL_shr binL_ishl binL_ishr binL_oeq binL_one binL_nn binL_pn binL_sn unL_not unL_negu unL_negi unL_xor cvL_uu cvL_ui cvL_ub cvL_iu cvL_ii cvL_ib cvL_bu cvL_bi cvL_bb cvL_bk
attribute [simp ↓] atC_some atD_some cellsL_some pickL_true pickL_false pickL_and pickL_or chkL_ptr chkL_cptr chkL_fn strL_str mkSlL_i bndV_i bndV_u slL_nil slL_dy slL_vw slL_lst sl3L_dy sl3L_lst offL_ptr offL_dptr offL_cptr fldL_true fldL_false ixL_i ixV_dy ixV_vw ixV_lst ixSL_i ixSL_u tupL_tup maxL_it maxL_if maxL_ut maxL_uf lenZ_i copyL_dy copyL_vw goL_fn goL_yield readL_ptr readL_dptr readL_cptr read1_ptr read1_dptr read1_cptr writeL_ptr writeL_dptr rowL_nil rowL_dy rowL_vw rowL_lst rowL_str bytL_nil bytL_dy bytL_lst lenL_nil lenL_dy lenL_vw lenL_lst appL_nil appL_dy binL_uu binL_ii binL_bb binL_ss binL_kk binL_shl binL_shr binL_ishl binL_ishr binL_oeq binL_one binL_nn binL_pn binL_sn unL_not unL_negu unL_negi unL_xor cvL_uu cvL_ui cvL_ub cvL_iu cvL_ii cvL_ib cvL_bu cvL_bi cvL_bb cvL_bk
attribute [simp] wp_skip wp_ops wp_seq wp_cond wp_block wp_draw wp_exit wp_scope wp_label wp_ret wp_stuck wp_loop wp_range seqQ_n seqQ_e seqQ_r blkQ_n blkQ_e blkQ_r nxQ_n nxQ_e nxQ_r endQ_n endQ_r endQ_e norQ_app takeL_nil takeL_cons takM_some takK_app endK_app resL_nil resL_tmp resL_c1 resL_cN tmpK_app conK_app c1K_app cnK_app oneL_1 oneL_0 oneL_2 OpsL_nil OpsL_cons opsK_app ItL_n ItL_t ItL_f itK_some itK_none atG_app DrL_nil DrL_cons drK_app ev_t ev_c argsL_nil argsL_cons setL_cons uuL_add uuL_sub uuL_mul uuL_quo uuL_rem uuL_shl uuL_shr uuL_andNot uuL_and uuL_or uuL_xor uuL_eql uuL_neq uuL_lss uuL_leq uuL_gtr uuL_geq bbL_add bbL_sub bbL_and bbL_or bbL_eql bbL_neq bbL_lss bbL_leq bbL_gtr bbL_geq iiL_add iiL_sub iiL_mul iiL_quo iiL_rem iiL_shl iiL_shr iiL_eql iiL_neq iiL_lss iiL_leq iiL_gtr iiL_geq kkL_eql kkL_neq kkL_lss kkL_leq kkL_gtr kkL_geq ssL_add ssL_eql ssL_neq nilL_eql nilL_neq
attribute [simp ↓] wp_skip wp_ops wp_seq wp_cond wp_block wp_draw wp_exit wp_scope wp_label wp_ret wp_stuck wp_loop wp_range seqQ_n seqQ_e seqQ_r blkQ_n blkQ_e blkQ_r nxQ_n nxQ_e nxQ_r endQ_n endQ_r endQ_e norQ_app takeL_nil takeL_cons takM_some takK_app endK_app resL_nil resL_tmp resL_c1 resL_cN tmpK_app conK_app c1K_app cnK_app oneL_1 oneL_0 oneL_2 OpsL_nil OpsL_cons opsK_app ItL_n ItL_t ItL_f itK_some itK_none atG_app DrL_nil DrL_cons drK_app ev_t ev_c argsL_nil argsL_cons setL_cons uuL_add uuL_sub uuL_mul uuL_quo uuL_rem uuL_shl uuL_shr uuL_andNot uuL_and uuL_or uuL_xor uuL_eql uuL_neq uuL_lss uuL_leq uuL_gtr uuL_geq bbL_add bbL_sub bbL_and bbL_or bbL_eql bbL_neq bbL_lss bbL_leq bbL_gtr bbL_geq iiL_add iiL_sub iiL_mul iiL_quo iiL_rem iiL_shl iiL_shr iiL_eql iiL_neq iiL_lss iiL_leq iiL_gtr iiL_geq kkL_eql kkL_neq kkL_lss kkL_leq kkL_gtr kkL_geq ssL_add ssL_eql ssL_neq nilL_eql nilL_neq
end Go.Sv
