/- Texts of the evaluator, of the logic over it, of plain arithmetic. -/
import Derived.Test.YtnbnhnjffiagmaaGreatSvG3
namespace Go.Sv
inductive Fr (α : Type) where
 | nil
 | op (o : α) (r : Fr α)
 | loop (o : α) (b : Fr α) (e : α) (r : Fr α)
section tree
variable {α : Type}
def Fr.flat : Fr α → List α
 | .nil => []
 | .op o r => o :: r.flat
 | .loop o b e r => o :: (b.flat ++ e :: r.flat)
def Fr.size : Fr α → Nat
 | .nil => 0
 | .op _ r => r.size + 1
 | .loop _ b _ r => b.size + r.size + 2
theorem Fr.flat_len : ∀ f : Fr α, f.flat.length = f.size
 | .nil => rfl
 | .op _ r => by simp [flat, size, flat_len r]
 | .loop _ b _ r => by simp [flat, size, flat_len b, flat_len r]; omega
def Fr.wf (kd : α → Nat) : Fr α → Prop
 | .nil => True
 | .op o r => kd o = 0 ∧ r.wf kd
 | .loop o b e r => kd o = 1 ∧ kd e = 2 ∧ b.wf kd ∧ r.wf kd
def bal (kd : α → Nat) : Nat → List α → Prop
 | d, [] => d = 0
 | d, o :: l => if kd o = 1 then bal kd (d + 1) l else if kd o = 2 then 0 < d ∧ bal kd (d - 1) l else kd o = 0 ∧ bal kd d l
theorem parse {kd : α → Nat} : ∀ (n : Nat) (l : List α) (d : Nat), l.length ≤ n → bal kd d l → ∃ (f : Fr α) (rest : List α), f.wf kd ∧ l = f.flat ++ rest ∧ ((d = 0 ∧ rest = []) ∨ ∃ (e : α) (rest' : List α) (d' : Nat), d = d' + 1 ∧ rest = e :: rest' ∧ kd e = 2 ∧ bal kd d' rest')
 | _, [], d, _, h => ⟨.nil, [], trivial, rfl, .inl ⟨h, rfl⟩⟩
 | n + 1, o :: l, d, hn, h => by
  have hn' : l.length ≤ n := by simpa using hn
  unfold bal at h
  by_cases h1 : kd o = 1
  ·rw [if_pos h1] at h
   obtain ⟨f1, r1, w1, e1, q1⟩ := parse n l (d + 1) hn' h
   rcases q1 with ⟨q, _⟩ | ⟨e, r2, d', hd, rfl, ke, hb⟩
   ·omega
   obtain rfl : d = d' := by omega
   have hl2 : r2.length ≤ n := by rw [e1] at hn'; simp at hn'; omega
   obtain ⟨f2, r3, w2, e2, q2⟩ := parse n r2 d hl2 hb
   refine ⟨.loop o f1 e f2, r3, ⟨h1, ke, w1, w2⟩, by rw [e1, e2]; simp [Fr.flat], q2⟩
  ·rw [if_neg h1] at h
   by_cases h2 : kd o = 2
   ·rw [if_pos h2] at h
    exact ⟨.nil, o :: l, trivial, rfl, .inr ⟨o, l, d - 1, by omega, rfl, h2, h.2⟩⟩
   ·rw [if_neg h2] at h
    obtain ⟨f1, r1, w1, e1, q1⟩ := parse n l d hn' h.2
    exact ⟨.op o f1, r1, ⟨h.1, w1⟩, by rw [e1]; rfl, q1⟩
theorem tree_of {kd : α → Nat} {l : List α} (h : bal kd 0 l) : ∃ f : Fr α, f.wf kd ∧ l = f.flat := by
 obtain ⟨f, r, w, e, q⟩ := parse l.length l 0 (Nat.le_refl _) h
 rcases q with ⟨_, rfl⟩ | ⟨_, _, _, h, _⟩
 ·exact ⟨f, w, by simpa using e⟩
 ·omega
def Fr.ends : Nat → Fr α → List Int
 | _, .nil => []
 | i, .op _ r => -1 :: r.ends (i + 1)
 | i, .loop _ b _ r => ((i + b.size + 1 : Nat) : Int) :: (b.ends (i + 1) ++ (i : Int) :: r.ends (i + b.size + 2))
theorem Fr.ends_len : ∀ (f : Fr α) (i : Nat), (f.ends i).length = f.size
 | .nil, _ => rfl
 | .op _ r, i => by simp [ends, size, ends_len r]
 | .loop _ b _ r, i => by simp [ends, size, ends_len b, ends_len r]; omega
def endsG (kd : α → Nat) : Nat → List Nat → List Int → List α → List Int
 | _, _, out, [] => out
 | i, st, out, o :: l => if kd o = 1 then endsG kd (i + 1) (i :: st) out l
  else if kd o = 2 then (match st with
   | [] => endsG kd (i + 1) [] out l
   | a :: st' => endsG kd (i + 1) st' ((out.set i a).set a i) l)
  else endsG kd (i + 1) st out l
theorem endsG_tree {kd : α → Nat} : ∀ (f : Fr α) (i : Nat) (st : List Nat) (out out' : List Int) (rest : List α), f.wf kd → out.length = i →
  endsG kd i st (out ++ List.replicate f.size (-1) ++ out') (f.flat ++ rest) = endsG kd (i + f.size) st (out ++ f.ends i ++ out') rest
 | .nil, i, st, out, out', rest, _, _ => by simp [Fr.flat, Fr.size, Fr.ends]
 | .op o r, i, st, out, out', rest, w, hl => by
  have h := endsG_tree r (i + 1) st (out ++ [-1]) out' rest w.2 (by simp [hl])
  have k1 : ¬ kd o = 1 := by rw [w.1]; decide
  have k2 : ¬ kd o = 2 := by rw [w.1]; decide
  simp only [Fr.flat, Fr.size, Fr.ends, List.cons_append, endsG, k1, k2, if_false, List.replicate_succ]
  simp only [List.append_assoc, List.cons_append, List.nil_append] at h ⊢
  rw [h]
  congr 1; omega
 | .loop o b e r, i, st, out, out', rest, w, hl => by
  obtain ⟨w1, w2, w3, w4⟩ := w
  have hb := endsG_tree b (i + 1) (i :: st) (out ++ [-1]) ([-1] ++ List.replicate r.size (-1) ++ out') (e :: (r.flat ++ rest)) w3 (by simp [hl])
  have hr := endsG_tree r (i + b.size + 2) st (out ++ [((i + b.size + 1 : Nat) : Int)] ++ b.ends (i + 1) ++ [(i : Int)]) out' rest w4 (by simp [hl, Fr.ends_len]; omega)
  have e1 : List.replicate (b.size + r.size + 2) (-1 : Int) = [-1] ++ List.replicate b.size (-1) ++ ([-1] ++ List.replicate r.size (-1)) := by
   rw [show b.size + r.size + 2 = 1 + b.size + (1 + r.size) by omega, ← List.replicate_append_replicate, ← List.replicate_append_replicate, ← List.replicate_append_replicate]; rfl
  simp only [Fr.flat, Fr.size, List.cons_append, endsG, w1, if_true]
  rw [e1]
  simp only [List.append_assoc, List.cons_append, List.nil_append] at hb hr ⊢
  rw [hb]
  simp only [endsG, w2, if_true]
  have hset : ((out ++ (-1 : Int) :: (b.ends (i + 1) ++ (-1 : Int) :: (List.replicate r.size (-1) ++ out'))).set (i + 1 + b.size) (i : Int)).set i ((i + 1 + b.size : Nat) : Int)
    = out ++ ((i + b.size + 1 : Nat) : Int) :: (b.ends (i + 1) ++ (i : Int) :: (List.replicate r.size (-1) ++ out')) := by
   rw [List.set_append_right _ _ (by omega), List.set_append_right _ _ (by omega), show i + 1 + b.size - out.length = b.size + 1 by omega, show i - out.length = 0 by omega, List.set_cons_succ, List.set_cons_zero,
    List.set_append_right _ _ (by rw [Fr.ends_len]; exact Nat.le_refl _), Fr.ends_len, Nat.sub_self, List.set_cons_zero, show i + 1 + b.size = i + b.size + 1 by omega]
  rw [hset, show i + 1 + b.size + 1 = i + b.size + 2 by omega, hr]
  simp only [Fr.ends, List.cons_append, List.append_assoc]
  rw [show i + (b.size + r.size + 2) = i + b.size + 2 + r.size by omega]
  simp [Nat.add_comm]
def endsL (kd : α → Nat) (l : List α) : List Int := endsG kd 0 [] (List.replicate l.length (-1)) l
theorem endsL_tree {kd : α → Nat} {f : Fr α} (w : f.wf kd) : endsL kd f.flat = f.ends 0 := by
 have h := endsG_tree f 0 [] [] [] [] w rfl
 simp only [List.append_nil, List.nil_append, endsG] at h
 rw [endsL, Fr.flat_len, h]
end tree
def kdK (o : Ko) : Nat := if o.kind = 15 then 1 else if o.kind = 16 then 2 else 0
theorem ogo_bal {vs : List Vr} : ∀ (l : List Ko) (m m' : List Bool) (d : Nat), ogo vs m d l = some (m', 0) → bal kdK d l
 | [], m, m', d, h => by
  unfold ogo at h
  cases h
  unfold bal; rfl
 | o :: l, m, m', d, h => by
  unfold ogo at h
  split at h
  ·rename_i hc
   simp only [Bool.and_eq_true, decide_eq_true_eq] at hc
   obtain ⟨_, _, h0, h4⟩ := hc
   unfold bal
   by_cases k1 : o.kind = 15
   ·rw [if_pos (by simp [kdK, k1])]
    rw [dl, if_pos k1] at h
    exact ogo_bal l _ m' (d + 1) (by simpa using h)
   ·rw [if_neg (by simp [kdK, k1]; split <;> simp)]
    by_cases k2 : o.kind = 16
    ·rw [if_pos (by simp [kdK, k2])]
     rw [dl, if_neg k1, if_pos k2] at h h0
     refine ⟨by omega, ogo_bal (vs := vs) l (stepM m o) m' (d - 1) ?_⟩
     rw [show ((d - 1 : Nat) : Int) = (d : Int) + -1 by omega]; exact h
    ·rw [if_neg (by simp [kdK, k1, k2])]
     rw [dl, if_neg k1, if_neg k2] at h
     exact ⟨by simp [kdK, k1, k2], ogo_bal l _ m' d (by simpa using h)⟩
  ·cases h
end Go.Sv
namespace Go.Sv
abbrev Sp := Int × Int
def Fr.tops {α : Type} : Nat → Fr α → List Sp
 | _, .nil => []
 | i, .op _ r => r.tops (i + 1)
 | i, .loop _ b _ r => ((i : Int), ((i + b.size + 1 : Nat) : Int)) :: r.tops (i + b.size + 2)
def gs (l : List Sp) (n : Nat) : Sp := l.getD n (0, 0)
structure Left (os : List Ko) (es : List Int) (T0 : List Sp) (i : Nat) (r : Fr Ko) (T : List Sp) : Prop where
 os : os.drop i = r.flat
 es : es.drop i = r.ends i
 wf : r.wf kdK
 tops : T0 = T ++ r.tops i
end Go.Sv
namespace Go.Sv
theorem varsB_len {vs : List Vr} (h : varsB vs = true) : 1 ≤ vs.length ∧ vs.length ≤ 256 := by
 unfold varsB at h
 split at h
 ·cases h
 ·simp only [Bool.and_eq_true, decide_eq_true_eq] at h; omega
theorem vgo_limbs : ∀ (l : List Vr) (i p r : Nat), vgo i p l = some r → ∀ v ∈ l, 1 ≤ v.limbs ∧ v.limbs ≤ 512 ∧ 0 ≤ v.mode ∧ v.mode ≤ 3
 | [], _, _, _, _, v, hv => by cases hv
 | w :: l, i, p, r, h, v, hv => by
  unfold vgo at h
  split at h
  ·cases h
  ·rename_i hb
   have hw : 1 ≤ w.limbs ∧ w.limbs ≤ 512 ∧ 0 ≤ w.mode ∧ w.mode ≤ 3 := by
    simp [vrBad] at hb; omega
   have key : ∀ r', vgo (i + 1) r' l = some r → 1 ≤ v.limbs ∧ v.limbs ≤ 512 ∧ 0 ≤ v.mode ∧ v.mode ≤ 3 := fun r' h' => by
    rcases List.mem_cons.1 hv with rfl | hv
    ·exact hw
    ·exact vgo_limbs l _ _ r h' v hv
   split at h
   ·exact key _ h
   ·split at h
    ·cases h
    ·exact key _ h
theorem varsB_limbs {vs : List Vr} (h : varsB vs = true) : ∀ v ∈ vs, 1 ≤ v.limbs ∧ v.limbs ≤ 512 ∧ 0 ≤ v.mode ∧ v.mode ≤ 3 := by
 unfold varsB at h
 split at h
 ·cases h
 ·rename_i p hp
  exact vgo_limbs vs 0 0 p hp
theorem gv_mem {vs : List Vr} {i : Nat} (h : i < vs.length) : gv vs i ∈ vs := List.mem_of_getElem? (at_gv h)
theorem limbs_at {vs : List Vr} (h : varsB vs = true) {v : Int} (h0 : 0 ≤ v) (h1 : v < vs.length) : 1 ≤ limbsAt vs v ∧ limbsAt vs v ≤ 512 := by
 have := varsB_limbs h _ (gv_mem (vs := vs) (i := v.toNat) (by omega))
 exact ⟨this.1, this.2.1⟩
theorem one_parts {vs : List Vr} {o : Ko} {s : Nat} (h : oneB vs o = true) (hs : shapeN o.kind = some s) : partsB vs.length s o = true ∧ numB o = true ∧ agreeB vs o = true := by
 unfold oneB at h
 split at h
 ·rename_i hk
  rw [hk] at hs; simp [shapeN] at hs
 ·rw [hs] at h
  simp only [Bool.and_eq_true] at h
  exact ⟨h.2.1, h.1, h.2.2.2.2.2⟩
theorem parts_c {n s : Nat} {o : Ko} (h : partsB n s o = true) (hb : s.testBit 4 = true) : 0 ≤ o.c ∧ o.c < n := by
 simp only [partsB, Bool.and_eq_true] at h; exact partOk_has h.2.2.2.2 hb
theorem parts_d {n s : Nat} {o : Ko} (h : partsB n s o = true) (hb : s.testBit 0 = true) : 0 ≤ o.d ∧ o.d < n := by
 simp only [partsB, Bool.and_eq_true] at h; exact partOk_has h.1 hb
abbrev TVr := { n : Int // inI n } × Bool × { n : Int // inI n } × Unit
abbrev TKo := { n : Int // inI n } × { n : Int // inI n } × { n : Int // inI n } × { n : Int // inI n } × { n : Int // inI n } × { n : Int // inI n } × UInt64 × Unit
def vrT (e : TVr) : Vr := ⟨e.1.1, e.2.1, e.2.2.1.1⟩
def koT (e : TKo) : Ko := ⟨e.1.1, e.2.1.1, e.2.2.1.1, e.2.2.2.1.1, e.2.2.2.2.1.1, e.2.2.2.2.2.1.1, e.2.2.2.2.2.2.1⟩
theorem flat_vr : ∀ l : List TVr, l.flatMap (fun x => [LV.i x.1.1, LV.bool x.2.1, LV.i x.2.2.1.1]) = vsC (l.map vrT)
 | [] => rfl
 | x :: l => by rw [List.flatMap_cons, flat_vr l]; rfl
theorem flat_ko : ∀ l : List TKo, l.flatMap (fun x => [LV.i x.1.1, LV.i x.2.1.1, LV.i x.2.2.1.1, LV.i x.2.2.2.1.1, LV.i x.2.2.2.2.1.1, LV.i x.2.2.2.2.2.1.1, LV.u x.2.2.2.2.2.2.1]) = osC (l.map koT)
 | [] => rfl
 | x :: l => by rw [List.flatMap_cons, flat_ko l]; rfl
def secU (vs : List Vr) (o : Ko) (s i : Nat) : Bool := (List.range i).any fun j => s.testBit j && ((decide (2 ≤ j) || decide (o.kind = 14)) && (gv vs (gd (ptL o) j).toNat).sec)
theorem partOk_bit {n s i : Nat} {v : Int} (h : partOk n s i v = true) : s.testBit i = !decide (v < 0) := by
 unfold partOk at h
 split at h
 ·rename_i hb
  have := thereB_iff.1 h
  rw [hb]; simp; omega
 ·rename_i hb
  have : v = -1 := of_decide_eq_true h
  subst this; simpa using hb
theorem secU_succ (vs : List Vr) (o : Ko) (s i : Nat) : secU vs o s (i + 1) = (secU vs o s i || (s.testBit i && ((decide (2 ≤ i) || decide (o.kind = 14)) && (gv vs (gd (ptL o) i).toNat).sec))) := by
 simp [secU, List.range_succ, List.any_append]
theorem secU_5 {vs : List Vr} {o : Ko} {n s : Nat} (hs : shapeN o.kind = some s) (hp : partsB n s o = true) : secU vs o s 5 = secB vs o := by
 simp only [partsB, Bool.and_eq_true] at hp
 obtain ⟨hd, he, ha, hb, hc⟩ := hp
 have h14 : o.kind = 14 → s = 19 := fun h => by have := shape_kinds hs; omega
 rw [show (5 : Nat) = 0 + 1 + 1 + 1 + 1 + 1 by rfl]
 simp only [secU_succ]
 rw [show secU vs o s 0 = false from rfl]
 rw [partOk_bit hd, partOk_bit he, partOk_bit ha, partOk_bit hb, partOk_bit hc]
 have g0 : gd (ptL o) 0 = o.d := rfl
 have g1 : gd (ptL o) (0 + 1) = o.e := rfl
 have g2 : gd (ptL o) (0 + 1 + 1) = o.a := rfl
 have g3 : gd (ptL o) (0 + 1 + 1 + 1) = o.b := rfl
 have g4 : gd (ptL o) (0 + 1 + 1 + 1 + 1) = o.c := rfl
 rw [g0, g1, g2, g3, g4]
 unfold secB takesL
 rw [List.any_append, List.any_filter]
 by_cases k : o.kind = 14
 ·have := h14 k
  subst this
  have bd := partOk_has hd (by decide)
  have be := partOk_has he (by decide)
  have d0 : decide (o.d < 0) = false := by simp; omega
  have e0 : decide (o.e < 0) = false := by simp; omega
  simp [k, d0, e0, Bool.or_comm, Bool.or_assoc]
 ·simp [k, Bool.or_assoc]
def takU (m : List Bool) (o : Ko) (i : Nat) : Bool := (List.range i).all fun j => !(!decide (gd (ptL o) j < 0) && (decide (2 ≤ j) || decide (o.kind = 14))) || gb m (gd (ptL o) j).toNat
theorem takU_succ (m : List Bool) (o : Ko) (i : Nat) : takU m o (i + 1) = (takU m o i && (!(!decide (gd (ptL o) i < 0) && (decide (2 ≤ i) || decide (o.kind = 14))) || gb m (gd (ptL o) i).toNat)) := by
 simp [takU, List.range_succ, List.all_append]
theorem takU_5 {n : Nat} {m : List Bool} {o : Ko} (hin : PartsIn n o) : takU m o 5 = takenB m o := by
 rw [show (5 : Nat) = 0 + 1 + 1 + 1 + 1 + 1 by rfl]
 simp only [takU_succ]
 rw [show takU m o 0 = true from rfl]
 have g0 : gd (ptL o) 0 = o.d := rfl
 have g1 : gd (ptL o) (0 + 1) = o.e := rfl
 have g2 : gd (ptL o) (0 + 1 + 1) = o.a := rfl
 have g3 : gd (ptL o) (0 + 1 + 1 + 1) = o.b := rfl
 have g4 : gd (ptL o) (0 + 1 + 1 + 1 + 1) = o.c := rfl
 rw [g0, g1, g2, g3, g4]
 unfold takenB takesL
 rw [List.all_append, List.all_filter]
 by_cases k : o.kind = 14
 ·have hd := hin.takes o.d (by simp [takesL, k])
  have he := hin.takes o.e (by simp [takesL, k])
  have d0 : decide (o.d < 0) = false := by simp; omega
  have e0 : decide (o.e < 0) = false := by simp; omega
  simp [k, d0, e0, Bool.and_comm, Bool.and_assoc]
 ·simp [k, Bool.and_assoc]
end Go.Sv
namespace Go.Sv
end Go.Sv
namespace Go.Sv
abbrev Fc := Int × Int × Int
def needsL (o : Ko) : List Fc :=
 if o.kind = 9 then [(3, o.c, -1)] else if o.kind = 10 ∨ o.kind = 11 then [(2, o.a, o.c), (2, o.b, o.c)] else if o.kind = 12 then [(1, o.c, -1), (2, o.a, o.c), (2, o.b, o.c)] else if o.kind = 13 then [(1, o.c, -1), (2, o.a, o.c)]
 else if o.kind = 17 then (if o.imm = 2 then [(2, o.a, o.b)] else if o.imm = 1 then [(1, o.a, -1)] else if o.imm = 3 then [(3, o.a, -1)] else []) else []
def gN (v : List Nat) (i : Int) : Nat := if i < 0 then 0 else v.getD i.toNat 0
def holdsB (f : Fc) (v : List Nat) : Bool :=
 thereB v.length f.2.1 && (if f.1 = 1 then decide (gN v f.2.1 % 2 = 1) else if f.1 = 3 then decide (0 < gN v f.2.1) else if f.1 = 2 then thereB v.length f.2.2 && decide (gN v f.2.1 < gN v f.2.2) else false)
def metB (o : Ko) (v : List Nat) : Bool := (needsL o).all fun f => holdsB f v
def two64 (n : Int) : Nat := 2 ^ (64 * n.toNat)
noncomputable def rawV (vs : List Vr) (o : Ko) (v : List Nat) : Nat :=
 let a := gN v o.a
 let b := gN v o.b
 let c := gN v o.c
 let w := two64 (limbsAt vs o.d)
 if o.kind = 1 then o.imm.toNat else if o.kind = 2 then a else if o.kind = 3 then a + b else if o.kind = 4 then a % w + w - b % w else if o.kind = 5 ∨ o.kind = 6 then a * b
 else if o.kind = 7 then (if a < b then 1 else 0) else if o.kind = 8 then (if c % 2 = 1 then a else b) else if o.kind = 9 then a % c else if o.kind = 10 then (a + b) % c else if o.kind = 11 then subM a b c
 else if o.kind = 12 then val (reR (toL (a * b)) (toL c) (limbsAt vs o.c)) else if o.kind = 13 then a ^ b % c else 0
noncomputable def opV (vs : List Vr) (o : Ko) (v : List Nat) : Nat := rawV vs o v % two64 (limbsAt vs o.d)
noncomputable def stepV (vs : List Vr) (o : Ko) (v : List Nat) : List Nat :=
 if o.kind = 14 then (if gN v o.c % 2 = 1 then (v.set o.d.toNat (gN v o.e)).set o.e.toNat (gN v o.d) else v) else if o.kind = 17 then v else v.set o.d.toNat (opV vs o v)
def iterO {α : Type} (f : α → Option α) : Nat → α → Option α
 | 0, v => some v
 | n + 1, v => match f v with
  | none => none
  | some w => iterO f n w
noncomputable def Fr.exec (vs : List Vr) : Fr Ko → List Nat → Option (List Nat)
 | .nil, v => some v
 | .op o r, v => if metB o v = true then r.exec vs (stepV vs o v) else none
 | .loop o b _ r, v => match iterO (fun w => b.exec vs w) o.imm.toNat v with
  | none => none
  | some w => r.exec vs w
noncomputable def mrun (vs : List Vr) (os : List Ko) (es : List Int) : Nat → Nat → List Nat → List (Int × Nat) → Option (Option (List Nat))
 | 0, _, _, _ => none
 | n + 1, i, v, stk => match os[i]? with
  | none => some (some v)
  | some o => if metB o v = true then
    (if o.kind = 15 then mrun vs os es n (i + 1) v ((gd es i, o.imm.toNat) :: stk)
    else if o.kind = 16 then (match stk with
     | [] => none
     | (e, l) :: s => if 1 < l then mrun vs os es n ((gd es i).toNat + 1) v ((e, l - 1) :: s) else mrun vs os es n (i + 1) v s)
    else mrun vs os es n (i + 1) (stepV vs o v) stk)
   else some none
theorem mrun_succ (vs : List Vr) (os : List Ko) (es : List Int) (n i : Nat) (v : List Nat) (stk : List (Int × Nat)) : mrun vs os es (n + 1) i v stk = match os[i]? with
  | none => some (some v)
  | some o => if metB o v = true then
    (if o.kind = 15 then mrun vs os es n (i + 1) v ((gd es i, o.imm.toNat) :: stk)
    else if o.kind = 16 then (match stk with
     | [] => none
     | (e, l) :: s => if 1 < l then mrun vs os es n ((gd es i).toNat + 1) v ((e, l - 1) :: s) else mrun vs os es n (i + 1) v s)
    else mrun vs os es n (i + 1) (stepV vs o v) stk)
   else some none := rfl
def Fr.cost : Fr Ko → Nat
 | .nil => 0
 | .op _ r => r.cost + 1
 | .loop o b _ r => 1 + o.imm.toNat * (b.cost + 1) + r.cost
def Fr.once : Fr Ko → Prop
 | .nil => True
 | .op _ r => r.once
 | .loop o b _ r => 1 ≤ o.imm.toNat ∧ b.once ∧ r.once
theorem met_loop {o : Ko} (h : o.kind = 15 ∨ o.kind = 16) (v : List Nat) : metB o v = true := by
 have : needsL o = [] := by
  unfold needsL
  rcases h with h | h <;> simp [h]
 simp [metB, this]
theorem kd_1 {o : Ko} : kdK o = 1 ↔ o.kind = 15 := by unfold kdK; split <;> (try split) <;> simp_all
theorem kd_2 {o : Ko} : kdK o = 2 ↔ o.kind = 16 := by
 unfold kdK
 by_cases h : o.kind = 15
 ·simp [h]
 ·by_cases h2 : o.kind = 16 <;> simp [h, h2]
theorem drop_at {α : Type} {l r : List α} {i : Nat} {a : α} (h : l.drop i = a :: r) : l[i]? = some a ∧ l.drop (i + 1) = r := by
 refine ⟨?_, ?_⟩
 ·have := congrArg (fun l : List α => l[0]?) h
  simpa using this
 ·rw [← List.drop_drop, h]; rfl
theorem drop_more {α : Type} {l a b : List α} {i : Nat} (h : l.drop i = a ++ b) : l.drop (i + a.length) = b := by
 rw [← List.drop_drop, h, List.drop_left]
theorem mrun_tree {vs : List Vr} {os : List Ko} {es : List Int} : ∀ (f : Fr Ko) (i : Nat) (v : List Nat) (stk : List (Int × Nat)) (n : Nat) (rest : List Ko) (rs : List Int), f.wf kdK → f.once → os.drop i = f.flat ++ rest → es.drop i = f.ends i ++ rs →
  mrun vs os es (f.cost + n) i v stk = match f.exec vs v with
   | none => some none
   | some w => mrun vs os es n (i + f.size) w stk
 | .nil, i, v, stk, n, rest, rs, _, _, _, _ => by simp [Fr.cost, Fr.exec, Fr.size]
 | .op o r, i, v, stk, n, rest, rs, w, u, h1, h2 => by
  simp only [Fr.flat, Fr.ends, List.cons_append] at h1 h2
  obtain ⟨a1, a2⟩ := drop_at h1
  obtain ⟨b1, b2⟩ := drop_at h2
  have k1 : ¬ o.kind = 15 := fun h => by have := w.1; simp [kdK, h] at this
  have k2 : ¬ o.kind = 16 := fun h => by have := w.1; simp [kdK, h] at this
  rw [show Fr.cost (.op o r) + n = (r.cost + n) + 1 by simp [Fr.cost]; omega, mrun_succ]
  simp only [a1, k1, k2, if_false, Fr.exec, Fr.size]
  by_cases hm : metB o v = true
  ·rw [if_pos hm, if_pos hm, mrun_tree r (i + 1) _ stk n rest rs w.2 u a2 b2]
   rw [show i + (r.size + 1) = i + 1 + r.size by omega]
  ·rw [if_neg hm, if_neg hm]
 | .loop o b e r, i, v, stk, n, rest, rs, w, u, h1, h2 => by
  obtain ⟨w1, w2, w3, w4⟩ := w
  obtain ⟨u1, u2, u3⟩ := u
  simp only [Fr.flat, Fr.ends, List.cons_append, List.append_assoc] at h1 h2
  obtain ⟨a1, a2⟩ := drop_at h1
  obtain ⟨b1, b2⟩ := drop_at h2
  have k15 := kd_1.1 w1
  have k16 := kd_2.1 w2
  have a3 := drop_more a2
  have b3 := drop_more b2
  rw [Fr.flat_len] at a3
  rw [Fr.ends_len] at b3
  obtain ⟨a4, a5⟩ := drop_at a3
  obtain ⟨b4, b5⟩ := drop_at b3
  have ge : gd es (i + 1 + b.size) = i := by simp [gd, List.getD_eq_getElem?_getD, b4]
  have hr : ∀ w', mrun vs os es (r.cost + n) (i + 1 + b.size + 1) w' stk = match r.exec vs w' with
    | none => some none
    | some w => mrun vs os es n (i + (b.size + r.size + 2)) w stk := fun w' => by
   have b6 : es.drop (i + 1 + b.size + 1) = r.ends (i + 1 + b.size + 1) ++ rs := by
    rw [b5]; congr 2; omega
   rw [mrun_tree r (i + 1 + b.size + 1) w' stk n rest rs w4 u3 a5 b6, show i + 1 + b.size + 1 + r.size = i + (b.size + r.size + 2) by omega]
  have key : ∀ (l : Nat) (v' : List Nat), 1 ≤ l → mrun vs os es (l * (b.cost + 1) + (r.cost + n)) (i + 1) v' ((gd es i, l) :: stk) = match iterO (fun w => b.exec vs w) l v' with
    | none => some none
    | some w => mrun vs os es (r.cost + n) (i + 1 + b.size + 1) w stk := by
   intro l
   induction l with
   | zero => intro v' h; omega
   | succ l ih =>
    intro v' _
    rw [show (l + 1) * (b.cost + 1) + (r.cost + n) = b.cost + ((l * (b.cost + 1) + (r.cost + n)) + 1) by rw [Nat.add_mul]; omega]
    rw [mrun_tree b (i + 1) v' _ _ (e :: (r.flat ++ rest)) ((i : Int) :: (r.ends (i + b.size + 2) ++ rs)) w3 u2 a2 b2]
    simp only [iterO]
    cases hb : b.exec vs v' with
    | none => rfl
    | some v2 =>
     dsimp only
     rw [mrun_succ]
     have m1 : metB e v2 = true := met_loop (.inr k16) v2
     have k1 : ¬ e.kind = 15 := by omega
     simp only [a4]
     rw [if_pos m1, if_neg k1, if_pos k16]
     simp only [ge, Int.toNat_natCast]
     cases l with
     | zero =>
      simp only [iterO, Nat.zero_add, Nat.zero_mul]
      rw [if_neg (by omega)]
     | succ l =>
      rw [if_pos (by omega), Nat.add_sub_cancel]
      exact ih v2 (by omega)
  rw [show Fr.cost (.loop o b e r) + n = (o.imm.toNat * (b.cost + 1) + (r.cost + n)) + 1 by simp [Fr.cost]; omega, mrun_succ]
  have m1 : metB o v = true := met_loop (.inl k15) v
  simp only [a1, Fr.exec, Fr.size]
  rw [if_pos m1, if_pos k15, key _ v u1]
  cases iterO (fun w => b.exec vs w) o.imm.toNat v with
  | none => rfl
  | some w' => exact hr w'
theorem mrun_all {vs : List Vr} {os : List Ko} {f : Fr Ko} (hw : f.wf kdK) (hu : f.once) (hf : os = f.flat) (v : List Nat) : mrun vs os (f.ends 0) (f.cost + 1) 0 v [] = some (f.exec vs v) := by
 rw [mrun_tree f 0 v [] 1 [] [] hw hu (by simp [hf]) (by simp)]
 cases f.exec vs v with
 | none => rfl
 | some w =>
  dsimp only
  rw [show (1 : Nat) = 0 + 1 from rfl, mrun_succ, Nat.zero_add]
  have : os[f.size]? = none := by rw [hf]; simp [Fr.flat_len]
  rw [this]
end Go.Sv
namespace Go.Sv
def cap40 : Nat := 1099511627776
def Fr.stepsT : Fr Ko → Nat
 | .nil => 0
 | .op _ r => r.stepsT + 1
 | .loop o b _ r => o.imm.toNat * (1 + b.stepsT) + r.stepsT
def Fr.stepsD : Fr Ko → Nat → Nat
 | .nil, s => s
 | .op _ r, s => r.stepsD (min cap40 (s + 1))
 | .loop o b _ r, s => r.stepsD (min cap40 (s + b.stepsD 1 * o.imm.toNat))
def Fr.stepsR : Fr Ko → Nat → Nat
 | .nil, n => n
 | .op _ r, n => r.stepsR (min (n + 1) cap40)
 | .loop o b _ r, n => r.stepsR (min (n + o.imm.toNat * (1 + b.stepsR 0)) cap40)
theorem min_mul_cap {C s x m : Nat} (hm : 1 ≤ m) : min C (s + min C x * m) = min C (s + x * m) := by
 by_cases h : x ≤ C
 ·rw [Nat.min_eq_right h]
 ·rw [Nat.min_eq_left (show C ≤ x by omega)]
  have h1 : C * 1 ≤ C * m := Nat.mul_le_mul_left _ hm
  have h2 : x * 1 ≤ x * m := Nat.mul_le_mul_left _ hm
  omega
theorem stepsD_eq : ∀ (f : Fr Ko) (s : Nat), f.once → s ≤ cap40 → f.stepsD s = min cap40 (s + f.stepsT)
 | .nil, s, _, h => by simp [Fr.stepsD, Fr.stepsT]; omega
 | .op _ r, s, u, h => by
  rw [Fr.stepsD, stepsD_eq r _ u (Nat.min_le_left _ _), Fr.stepsT]; omega
 | .loop o b _ r, s, u, h => by
  rw [Fr.stepsD, stepsD_eq r _ u.2.2 (Nat.min_le_left _ _), stepsD_eq b 1 u.2.1 (by decide), min_mul_cap u.1, Fr.stepsT, Nat.mul_comm (1 + b.stepsT)]; omega
theorem stepsR_eq : ∀ (f : Fr Ko) (n : Nat), f.once → n ≤ cap40 → f.stepsR n = min cap40 (n + f.stepsT)
 | .nil, n, _, h => by simp [Fr.stepsR, Fr.stepsT]; omega
 | .op _ r, n, u, h => by
  rw [Fr.stepsR, stepsR_eq r _ u (Nat.min_le_right _ _), Fr.stepsT]; omega
 | .loop o b _ r, n, u, h => by
  rw [Fr.stepsR, stepsR_eq r _ u.2.2 (Nat.min_le_right _ _), stepsR_eq b 0 u.2.1 (by decide), Fr.stepsT, Nat.zero_add]
  have e : min (n + o.imm.toNat * (1 + min cap40 b.stepsT)) cap40 = min cap40 (n + (1 + b.stepsT) * o.imm.toNat) := by
   by_cases hb : b.stepsT ≤ cap40
   ·rw [Nat.min_eq_right hb, Nat.mul_comm]; omega
   ·rw [Nat.min_eq_left (show cap40 ≤ b.stepsT by omega)]
    have h1 : 1 * (1 + cap40) ≤ o.imm.toNat * (1 + cap40) := Nat.mul_le_mul_right _ u.1
    have h2 : (1 + b.stepsT) * 1 ≤ (1 + b.stepsT) * o.imm.toNat := Nat.mul_le_mul_left _ u.1
    omega
  rw [e, Nat.mul_comm (1 + b.stepsT)]; omega
theorem ogo_all {vs : List Vr} : ∀ (l : List Ko) (m : List Bool) (d : Int) (r : List Bool × Int), ogo vs m d l = some r → ∀ o ∈ l, oneB vs o = true
 | [], _, _, _, _, o, ho => by cases ho
 | x :: l, m, d, r, h, o, ho => by
  unfold ogo at h
  split at h
  ·rename_i hc
   simp only [Bool.and_eq_true] at hc
   rcases List.mem_cons.1 ho with rfl | ho
   ·exact hc.1
   ·exact ogo_all l _ _ r h o ho
  ·cases h
theorem once_of {vs : List Vr} : ∀ (f : Fr Ko), f.wf kdK → (∀ o ∈ f.flat, oneB vs o = true) → f.once
 | .nil, _, _ => trivial
 | .op _ r, w, h => once_of r w.2 fun o ho => h o (List.mem_cons_of_mem _ ho)
 | .loop o b e r, w, h => by
  obtain ⟨w1, w2, w3, w4⟩ := w
  refine ⟨?_, once_of b w3 fun x hx => h x (by simp [Fr.flat, hx]), once_of r w4 fun x hx => h x (by simp [Fr.flat, hx])⟩
  have k15 := kd_1.1 w1
  have h1 := h o (by simp [Fr.flat])
  obtain ⟨_, hn, _⟩ := one_parts (s := 0) h1 (by simp [shapeN, k15])
  simp [numB, k15] at hn
  have := hn.1
  rw [UInt64.le_iff_toNat_le] at this
  exact this
end Go.Sv
namespace Go.Sv
def okV (vs : List Vr) (v : List Nat) : Prop := v.length = vs.length ∧ ∀ i, i < vs.length → v.getD i 0 < two64 (gv vs i).limbs
theorem getD_setN (v : List Nat) (i j x : Nat) (h : i < v.length) : (v.set i x).getD j 0 = if j = i then x else v.getD j 0 := by
 rw [List.getD_eq_getElem?_getD, List.getD_eq_getElem?_getD, List.getElem?_set]
 by_cases e : i = j
 ·subst e; simp [h]
 ·rw [if_neg e, if_neg (fun q => e q.symm)]
theorem okV_set {vs : List Vr} {v : List Nat} (h : okV vs v) {d : Int} (hd : 0 ≤ d ∧ d < vs.length) {x : Nat} (hx : x < two64 (limbsAt vs d)) : okV vs (v.set d.toNat x) := by
 refine ⟨by simp [h.1], fun i hi => ?_⟩
 rw [getD_setN _ _ _ _ (by rw [h.1]; omega)]
 split
 ·rename_i e; subst e; exact hx
 ·exact h.2 i hi
theorem two64_pos (n : Int) : 0 < two64 n := Nat.pow_pos (by decide)
theorem gN_at {v : List Nat} {i : Int} (h : 0 ≤ i) : gN v i = v.getD i.toNat 0 := by unfold gN; rw [if_neg (by omega)]
theorem swap_parts {vs : List Vr} {o : Ko} (h : oneB vs o = true) (hk : o.kind = 14) : (0 ≤ o.d ∧ o.d < vs.length) ∧ (0 ≤ o.e ∧ o.e < vs.length) ∧ (0 ≤ o.c ∧ o.c < vs.length) ∧ o.d ≠ o.e ∧ limbsAt vs o.d = limbsAt vs o.e := by
 obtain ⟨hp, _, ha⟩ := one_parts (s := 19) h (by simp [shapeN, hk])
 have hd := parts_d hp (by decide)
 have he : 0 ≤ o.e ∧ o.e < vs.length := by
  simp only [partsB, Bool.and_eq_true] at hp; exact partOk_has hp.2.1 (by decide)
 have hc := parts_c hp (by decide)
 refine ⟨hd, he, hc, ?_, ?_⟩
 ·unfold oneB at h
  rw [if_neg (by omega)] at h
  simp only [show shapeN o.kind = some 19 by simp [shapeN, hk], Bool.and_eq_true, Bool.or_eq_true, decide_eq_true_eq, Bool.not_eq_true', decide_eq_false_iff_not] at h
  rcases h.2.2.2.2.1 with h | h
  ·omega
  ·exact h
 ·simp [agreeB, alikeL, hk] at ha
  exact ha.symm
theorem d_in {vs : List Vr} {o : Ko} (h : oneB vs o = true) (h17 : o.kind ≠ 17) (h15 : o.kind ≠ 15) (h16 : o.kind ≠ 16) : 0 ≤ o.d ∧ o.d < vs.length := by
 unfold oneB at h
 rw [if_neg h17] at h
 split at h
 ·cases h
 ·rename_i s hs
  simp only [Bool.and_eq_true] at h
  have hk := shape_kinds hs
  refine parts_d h.2.1 ?_
  rcases hk with ⟨_, rfl⟩ | ⟨_, rfl⟩ | ⟨_, rfl⟩ | ⟨_, rfl⟩ | ⟨_, rfl⟩ | ⟨_, rfl⟩ | ⟨h, _⟩
  all_goals first | decide | omega
theorem step_ok {vs : List Vr} {o : Ko} {v : List Nat} (ho : oneB vs o = true) (h15 : o.kind ≠ 15) (h16 : o.kind ≠ 16) (h : okV vs v) : okV vs (stepV vs o v) := by
 unfold stepV
 split
 ·rename_i hk
  obtain ⟨hd, he, hc, hne, hl⟩ := swap_parts ho hk
  split
  ·refine okV_set (okV_set h hd ?_) he ?_
   ·rw [gN_at he.1, hl]; exact h.2 _ (by omega)
   ·rw [gN_at hd.1, ← hl]; exact h.2 _ (by omega)
  ·exact h
 ·split
  ·exact h
  ·rename_i h17
   exact okV_set h (d_in ho h17 h15 h16) (Nat.mod_lt _ (two64_pos _))
theorem iter_ok {P : List Nat → Prop} {f : List Nat → Option (List Nat)} (hf : ∀ v w, P v → f v = some w → P w) : ∀ (n : Nat) (v w : List Nat), P v → iterO f n v = some w → P w
 | 0, v, w, h, e => by cases e; exact h
 | n + 1, v, w, h, e => by
  unfold iterO at e
  split at e
  ·cases e
  ·rename_i x hx
   exact iter_ok hf n x w (hf v x h hx) e
theorem exec_ok {vs : List Vr} : ∀ (f : Fr Ko) (v w : List Nat), f.wf kdK → (∀ o ∈ f.flat, oneB vs o = true) → okV vs v → f.exec vs v = some w → okV vs w
 | .nil, v, w, _, _, h, e => by cases e; exact h
 | .op o r, v, w, hw, ha, h, e => by
  unfold Fr.exec at e
  split at e
  ·have k1 : o.kind ≠ 15 := fun h => by have := hw.1; simp [kdK, h] at this
   have k2 : o.kind ≠ 16 := fun h => by have := hw.1; simp [kdK, h] at this
   exact exec_ok r _ w hw.2 (fun x hx => ha x (List.mem_cons_of_mem _ hx)) (step_ok (ha o (List.mem_cons_self ..)) k1 k2 h) e
  ·cases e
 | .loop o b _ r, v, w, hw, ha, h, e => by
  unfold Fr.exec at e
  split at e
  ·cases e
  ·rename_i x hx
   have hb : ∀ v w, okV vs v → b.exec vs v = some w → okV vs w := fun v w hv he => exec_ok b v w hw.2.2.1 (fun y hy => ha y (by simp [Fr.flat, hy])) hv he
   exact exec_ok r x w hw.2.2.2 (fun y hy => ha y (by simp [Fr.flat, hy])) (iter_ok hb _ v x h hx) e
def Fr.app {α : Type} : Fr α → Fr α → Fr α
 | .nil, g => g
 | .op o r, g => .op o (r.app g)
 | .loop o b e r, g => .loop o b e (r.app g)
end Go.Sv
namespace Go.Sv
end Go.Sv
namespace Go.Sv
def mkO : List Bool → List Ko → Option (List Bool)
 | m, [] => some m
 | m, o :: l => if takenB m o = true then mkO (stepM m o) l else none
def Fr.deep : Fr Ko → Nat
 | .nil => 0
 | .op _ r => r.deep
 | .loop _ b _ r => max (1 + b.deep) r.deep
theorem mkO_app : ∀ (a b : List Ko) (m : List Bool), mkO m (a ++ b) = match mkO m a with
  | none => none
  | some m1 => mkO m1 b
 | [], _, _ => rfl
 | o :: a, b, m => by
  simp only [List.cons_append, mkO]
  split
  ·exact mkO_app a b _
  ·rfl
theorem ogo_deep {vs : List Vr} : ∀ (f : Fr Ko) (m : List Bool) (d : Int) (rest : List Ko) (r : List Bool × Int), f.wf kdK → 0 ≤ d → d ≤ 4 → ogo vs m d (f.flat ++ rest) = some r → d + f.deep ≤ 4 ∧ ∃ m', mkO m f.flat = some m' ∧ ogo vs m' d rest = some r
 | .nil, m, d, rest, r, _, _, h4, h => ⟨by simp [Fr.deep]; omega, m, rfl, h⟩
 | .op o f, m, d, rest, r, w, h0, h4, h => by
  have k1 : o.kind ≠ 15 := fun h => by have := w.1; simp [kdK, h] at this
  have k2 : o.kind ≠ 16 := fun h => by have := w.1; simp [kdK, h] at this
  simp only [Fr.flat, List.cons_append] at h
  unfold ogo at h
  split at h
  ·rename_i hc
   simp only [Bool.and_eq_true] at hc
   rw [dl, if_neg k1, if_neg k2, Int.add_zero] at h
   obtain ⟨q1, m', q2, q3⟩ := ogo_deep f _ d rest r w.2 h0 h4 h
   exact ⟨q1, m', by simp only [Fr.flat, mkO, hc.2.1, if_true]; exact q2, q3⟩
  ·cases h
 | .loop o b e f, m, d, rest, r, w, h0, h4, h => by
  obtain ⟨w1, w2, w3, w4⟩ := w
  have k15 := kd_1.1 w1
  have k16 := kd_2.1 w2
  simp only [Fr.flat, List.cons_append, List.append_assoc] at h
  unfold ogo at h
  split at h
  ·rename_i hc
   simp only [Bool.and_eq_true, decide_eq_true_eq] at hc
   rw [dl, if_pos k15] at h
   have hd := hc.2.2.2
   rw [dl, if_pos k15] at hd
   obtain ⟨q1, m1, q2, q3⟩ := ogo_deep b _ (d + 1) _ r w3 (by omega) hd h
   unfold ogo at q3
   split at q3
   ·rename_i hc2
    simp only [Bool.and_eq_true, decide_eq_true_eq] at hc2
    rw [dl, if_neg (by omega), if_pos k16, show d + 1 + -1 = d by omega] at q3
    obtain ⟨p1, m2, p2, p3⟩ := ogo_deep f _ d rest r w4 h0 h4 q3
    refine ⟨by simp only [Fr.deep]; omega, m2, ?_, p3⟩
    simp only [Fr.flat, mkO, hc.2.1, if_true]
    rw [mkO_app, q2]
    simp only [mkO, hc2.2.1, if_true]
    exact p2
   ·cases q3
  ·cases h
end Go.Sv
namespace Go.Sv
theorem chk_tree {vs : List Vr} {os rs : List Ko} (h : chkB vs os rs = true) : ∃ f : Fr Ko, f.wf kdK ∧ os = f.flat ∧ f.once ∧ (∀ o ∈ f.flat, oneB vs o = true) ∧ f.deep ≤ 4 ∧ ∃ m', mkO (startM vs) f.flat = some m' ∧ madeAll vs m' = true := by
 unfold chkB at h
 simp only [Bool.and_eq_true, decide_eq_true_eq] at h
 obtain ⟨h1, h2, h3, h4, h5⟩ := h
 split at h5
 ·cases h5
 ·rename_i m dp hg
  simp only [Bool.and_eq_true, decide_eq_true_eq] at h5
  obtain ⟨h5, rfl⟩ := h5
  obtain ⟨f, w, hf⟩ := tree_of (ogo_bal os _ m 0 (by simpa using hg))
  subst hf
  have ha := ogo_all _ _ _ _ hg
  obtain ⟨q1, m', q2, q3⟩ := ogo_deep f (startM vs) 0 [] (m, 0) w (by omega) (by omega) (by simpa using hg)
  have hm : m' = m := by
   unfold ogo at q3
   simpa using q3
  subst hm
  exact ⟨f, w, rfl, once_of f w ha, ha, by omega, m', q2, h5⟩
end Go.Sv
namespace Go.Sv
def unK (o : Ko) : Ko := if o.kind = 6 then { o with kind := 5 } else o
def Fr.map {α : Type} (g : α → α) : Fr α → Fr α
 | .nil => .nil
 | .op o r => .op (g o) (r.map g)
 | .loop o b e r => .loop (g o) (b.map g) (g e) (r.map g)
theorem flat_map {α : Type} (g : α → α) : ∀ f : Fr α, (f.map g).flat = f.flat.map g
 | .nil => rfl
 | .op _ r => by simp [Fr.map, Fr.flat, flat_map g r]
 | .loop _ b _ r => by simp [Fr.map, Fr.flat, flat_map g r, flat_map g b]
theorem unK_kd (o : Ko) : kdK (unK o) = kdK o := by
 unfold unK
 split
 ·rename_i h; simp [kdK, h]
 ·rfl
theorem wf_map : ∀ f : Fr Ko, f.wf kdK → (f.map unK).wf kdK
 | .nil, _ => trivial
 | .op _ r, w => ⟨by rw [unK_kd]; exact w.1, wf_map r w.2⟩
 | .loop _ b _ r, w => ⟨by rw [unK_kd]; exact w.1, by rw [unK_kd]; exact w.2.1, wf_map b w.2.2.1, wf_map r w.2.2.2⟩
theorem unK_imm (o : Ko) : (unK o).imm = o.imm := by unfold unK; split <;> rfl
theorem unK_step (vs : List Vr) (o : Ko) (v : List Nat) : stepV vs (unK o) v = stepV vs o v := by
 unfold unK
 split
 ·rename_i h; simp [stepV, opV, rawV, h]
 ·rfl
theorem unK_met (o : Ko) (v : List Nat) : metB (unK o) v = metB o v := by
 unfold unK
 split
 ·rename_i h; simp [metB, needsL, h]
 ·rfl
theorem exec_map {vs : List Vr} : ∀ (f : Fr Ko) (v : List Nat), (f.map unK).exec vs v = f.exec vs v
 | .nil, _ => rfl
 | .op o r, v => by
  simp only [Fr.map, Fr.exec, unK_met, unK_step]
  split
  ·exact exec_map r _
  ·rfl
 | .loop o b e r, v => by
  have hb : (fun w => (b.map unK).exec vs w) = fun w => b.exec vs w := funext fun w => exec_map b w
  simp only [Fr.map, Fr.exec, unK_imm, hb]
  cases iterO (fun w => b.exec vs w) o.imm.toNat v with
  | none => rfl
  | some w => exact exec_map r w
theorem stepsT_map : ∀ f : Fr Ko, (f.map unK).stepsT = f.stepsT
 | .nil => rfl
 | .op _ r => by simp [Fr.map, Fr.stepsT, stepsT_map r]
 | .loop _ b _ r => by simp [Fr.map, Fr.stepsT, stepsT_map r, stepsT_map b, unK_imm]
theorem unK_takes (o : Ko) : takesL (unK o) = takesL o := by
 unfold unK
 split
 ·rename_i h; simp [takesL, h]
 ·rfl
theorem unK_one {vs : List Vr} {o : Ko} (h : oneB vs o = true) : oneB vs (unK o) = true := by
 unfold unK
 split
 ·rename_i k
  simp only [oneB, k, shapeN, partsB, numB, secB, takesL, agreeB, alikeL] at h ⊢
  simp only [show (6 : Int) ≠ 17 by decide, show (5 : Int) ≠ 17 by decide, if_false] at h ⊢
  simp at h ⊢
  simp_all
 ·exact h
theorem ogo_map {vs : List Vr} : ∀ (l : List Ko) (m : List Bool) (d : Int) (r : List Bool × Int), ogo vs m d l = some r → ogo vs m d (l.map unK) = some r
 | [], _, _, _, h => h
 | o :: l, m, d, r, h => by
  simp only [List.map_cons]
  have e1 : takenB m (unK o) = takenB m o := by simp [takenB, unK_takes]
  have e2 : dl (unK o).kind = dl o.kind := by
   unfold unK
   split
   ·rename_i k; simp [dl, k]
   ·rfl
  have e3 : stepM m (unK o) = stepM m o := by
   unfold unK
   split <;> rfl
  unfold ogo at h ⊢
  split at h
  ·rename_i hc
   simp only [Bool.and_eq_true] at hc
   rw [e1, e2, e3, if_pos (by simp only [Bool.and_eq_true]; exact ⟨unK_one hc.1, hc.2⟩)]
   exact ogo_map l _ _ r h
  ·cases h
theorem chk_map {vs : List Vr} {os rs : List Ko} (h : chkB vs os rs = true) : chkB vs (os.map unK) rs = true := by
 unfold chkB at h ⊢
 simp only [Bool.and_eq_true, decide_eq_true_eq] at h ⊢
 obtain ⟨h1, h2, h3, h4, h5⟩ := h
 refine ⟨h1, by simpa using h2, h3, h4, ?_⟩
 split at h5
 ·cases h5
 ·rename_i m dp hg
  rw [ogo_map _ _ _ _ hg]
  simpa using h5
end Go.Sv
namespace Go.Sv
theorem flat_inj {α : Type} {kd : α → Nat} : ∀ (f g : Fr α) (r1 r2 : List α), f.wf kd → g.wf kd → (∀ x t, r1 = x :: t → kd x = 2) → (∀ x t, r2 = x :: t → kd x = 2) → f.flat ++ r1 = g.flat ++ r2 → f = g ∧ r1 = r2
 | .nil, .nil, r1, r2, _, _, _, _, h => ⟨rfl, h⟩
 | .nil, .op o g, r1, r2, _, w, h1, _, h => by
  have := h1 o _ (by simpa [Fr.flat] using h)
  have := w.1; omega
 | .nil, .loop o b e g, r1, r2, _, w, h1, _, h => by
  have := h1 o _ (by simpa [Fr.flat] using h)
  have := w.1; omega
 | .op o f, .nil, r1, r2, w, _, _, h2, h => by
  have := h2 o _ (by simpa [Fr.flat] using h.symm)
  have := w.1; omega
 | .loop o b e f, .nil, r1, r2, w, _, _, h2, h => by
  have := h2 o _ (by simpa [Fr.flat] using h.symm)
  have := w.1; omega
 | .op o f, .op o' g, r1, r2, w, w', h1, h2, h => by
  simp only [Fr.flat, List.cons_append, List.cons.injEq] at h
  obtain ⟨rfl, h⟩ := h
  obtain ⟨rfl, rfl⟩ := flat_inj f g r1 r2 w.2 w'.2 h1 h2 h
  exact ⟨rfl, rfl⟩
 | .op o f, .loop o' b e g, r1, r2, w, w', _, _, h => by
  simp only [Fr.flat, List.cons_append, List.cons.injEq] at h
  have a1 := w.1
  have a2 := w'.1
  rw [h.1] at a1; omega
 | .loop o b e f, .op o' g, r1, r2, w, w', _, _, h => by
  simp only [Fr.flat, List.cons_append, List.cons.injEq] at h
  have a1 := w.1
  have a2 := w'.1
  rw [h.1] at a1; omega
 | .loop o b e f, .loop o' b' e' g, r1, r2, w, w', h1, h2, h => by
  simp only [Fr.flat, List.cons_append, List.cons.injEq, List.append_assoc] at h
  obtain ⟨rfl, h⟩ := h
  obtain ⟨rfl, h5⟩ := flat_inj b b' _ _ w.2.2.1 w'.2.2.1 (fun x t q => by injection q with q _; exact q ▸ w.2.1) (fun x t q => by injection q with q _; exact q ▸ w'.2.1) h
  injection h5 with h3 h4
  subst h3
  obtain ⟨rfl, rfl⟩ := flat_inj f g r1 r2 w.2.2.2 w'.2.2.2 h1 h2 h4
  exact ⟨rfl, rfl⟩
open Classical in
noncomputable def frOf (os : List Ko) : Fr Ko := if h : ∃ f : Fr Ko, f.wf kdK ∧ os = f.flat then h.choose else .nil
theorem frOf_flat {f : Fr Ko} (w : f.wf kdK) : frOf f.flat = f := by
 have h : ∃ g : Fr Ko, g.wf kdK ∧ f.flat = g.flat := ⟨f, w, rfl⟩
 unfold frOf
 rw [dif_pos h]
 have hs := h.choose_spec
 exact (flat_inj _ f [] [] hs.1 w (by simp) (by simp) (by simpa using hs.2.symm)).1
def inV (vs : List Vr) : List Nat := (List.range vs.length).filter fun i => givenB (gv vs i)
def outV (vs : List Vr) : List Nat := (List.range vs.length).filter fun i => decide ((gv vs i).mode = 3)
def fitsD (vs : List Vr) (ns : List Nat) : Bool := ((inV vs).zip ns).all fun p => decide (p.2 < two64 (gv vs p.1).limbs)
def fitD (vs : List Vr) (os rs : List Ko) (ns : List Nat) : Int := if chkB vs os rs = true then (if (inV vs).length = ns.length then (if fitsD vs ns = true then 0 else 3) else 2) else 2
def startW (vs : List Vr) (ns : List Nat) : List Nat := ((inV vs).zip ns).foldl (fun v p => v.set p.1 p.2) (List.replicate vs.length 0)
def metD (vs : List Vr) (os rs : List Ko) (ns : List Nat) : Bool := decide (fitD vs os rs ns = 0) && rs.all fun o => metB o (startW vs ns)
noncomputable def stepsN20 (vs : List Vr) (os rs : List Ko) : Nat := if chkB vs os rs = true then min cap40 (frOf os).stepsT else 0
noncomputable def runD (vs : List Vr) (os rs : List Ko) (ns : List Nat) : List (List UInt64) × Int :=
 if fitD vs os rs ns = 0 then (if metD vs os rs ns = true then (if stepsN20 vs os rs ≤ 16384 then (match (frOf os).exec vs (startW vs ns) with
  | none => ([], 9)
  | some w => ((outV vs).map fun i => toL (w.getD i 0), 0)) else ([], 10)) else ([], 9)) else ([], fitD vs os rs ns)
theorem inV_lt {vs : List Vr} {i : Nat} (h : i ∈ inV vs) : i < vs.length := by
 have := (List.mem_filter.1 h).1; simpa using this
theorem outV_lt {vs : List Vr} {i : Nat} (h : i ∈ outV vs) : i < vs.length := by
 have := (List.mem_filter.1 h).1; simpa using this
theorem okV_fold {vs : List Vr} : ∀ (l : List (Nat × Nat)) (v : List Nat), (∀ p ∈ l, p.1 < vs.length ∧ p.2 < two64 (gv vs p.1).limbs) → okV vs v → okV vs (l.foldl (fun v p => v.set p.1 p.2) v)
 | [], v, _, h => h
 | p :: l, v, hl, h => by
  obtain ⟨h1, h2⟩ := hl p (List.mem_cons_self ..)
  refine okV_fold l _ (fun q hq => hl q (List.mem_cons_of_mem _ hq)) ?_
  have := okV_set h (d := (p.1 : Int)) (by omega) (x := p.2) (by simpa [limbsAt] using h2)
  simpa using this
theorem okV_start {vs : List Vr} {ns : List Nat} (h : fitsD vs ns = true) : okV vs (startW vs ns) := by
 refine okV_fold _ _ (fun p hp => ?_) ⟨by simp, fun i hi => ?_⟩
 ·unfold fitsD at h
  rw [List.all_eq_true] at h
  have := h p hp
  exact ⟨inV_lt (List.of_mem_zip hp).1, by simpa using this⟩
 ·rw [List.getD_eq_getElem?_getD]
  simp [hi, two64_pos]
theorem fitD_parts {vs : List Vr} {os rs : List Ko} {ns : List Nat} (h : fitD vs os rs ns = 0) : chkB vs os rs = true ∧ (inV vs).length = ns.length ∧ fitsD vs ns = true := by
 unfold fitD at h
 by_cases h1 : chkB vs os rs = true
 ·by_cases h2 : (inV vs).length = ns.length
  ·by_cases h3 : fitsD vs ns = true
   ·exact ⟨h1, h2, h3⟩
   ·rw [if_pos h1, if_pos h2, if_neg h3] at h; omega
  ·rw [if_pos h1, if_neg h2] at h; omega
 ·rw [if_neg h1] at h; omega
theorem run_bounds {vs : List Vr} {os rs : List Ko} {ns : List Nat} : ((runD vs os rs ns).2 ≠ 0 → (runD vs os rs ns).1 = []) ∧ ((runD vs os rs ns).2 = 0 → (runD vs os rs ns).1.length = (outV vs).length ∧ (∀ i (h1 : i < (runD vs os rs ns).1.length) (h2 : i < (outV vs).length), (((runD vs os rs ns).1[i]).length : Int) ≤ (gv vs (outV vs)[i]).limbs) ∧ metD vs os rs ns = true ∧ fitD vs os rs ns = 0) := by
 by_cases h1 : fitD vs os rs ns = 0
 ·by_cases h2 : metD vs os rs ns = true
  ·by_cases h3 : stepsN20 vs os rs ≤ 16384
   ·obtain ⟨hc, hn, hf⟩ := fitD_parts h1
    obtain ⟨f, w, rfl, u, ha, hd, m', hm, hma⟩ := chk_tree hc
    cases he : (frOf f.flat).exec vs (startW vs ns) with
    | none => simp [runD, h1, h2, h3, he]
    | some x =>
     have e : runD vs f.flat rs ns = ((outV vs).map fun i => toL (x.getD i 0), 0) := by simp [runD, h1, h2, h3, he]
     rw [e]
     refine ⟨fun h => absurd rfl h, fun _ => ⟨by simp, fun i i1 i2 => ?_, h2, h1⟩⟩
     rw [frOf_flat w] at he
     have hk := exec_ok f _ x w ha (okV_start hf) he
     have hlt : (outV vs)[i] < vs.length := outV_lt (List.getElem_mem i2)
     have hb := hk.2 _ hlt
     simp only [List.getElem_map]
     have := toL_length_le hb
     have hz : 0 < two64 (gv vs (outV vs)[i]).limbs := two64_pos _
     have hv : 0 ≤ (gv vs (outV vs)[i]).limbs := by
      have hv : varsB vs = true := by unfold chkB at hc; simp only [Bool.and_eq_true] at hc; exact hc.1
      have := limbs_at hv (v := ((outV vs)[i] : Nat)) (by omega) (by omega)
      simp only [limbsAt, Int.toNat_natCast] at this
      omega
     omega
   ·simp [runD, h1, h2, h3]
  ·simp [runD, h1, h2]
 ·simp [runD, h1]
theorem run_map {vs : List Vr} {os rs : List Ko} {ns : List Nat} (hc : chkB vs os rs = true) : runD vs (os.map unK) rs ns = runD vs os rs ns := by
 obtain ⟨f, w, rfl, u, ha, hd, m', hm, hma⟩ := chk_tree hc
 have hc2 := chk_map hc
 have e0 : frOf (f.flat.map unK) = f.map unK := by rw [← flat_map, frOf_flat (wf_map f w)]
 have e1 : fitD vs (f.flat.map unK) rs ns = fitD vs f.flat rs ns := by simp [fitD, hc, hc2]
 have e2 : metD vs (f.flat.map unK) rs ns = metD vs f.flat rs ns := by simp [metD, e1]
 have e3 : stepsN20 vs (f.flat.map unK) rs = stepsN20 vs f.flat rs := by simp [stepsN20, hc, hc2, e0, frOf_flat w, stepsT_map]
 unfold runD
 rw [e1, e2, e3, e0, frOf_flat w, exec_map]
end Go.Sv
namespace Go.Sv
theorem steps_le {vs : List Vr} {f : Fr Ko} {rs : List Ko} {n : Nat} (w : f.wf kdK) (hc : chkB vs f.flat rs = true) (hn : n < cap40) (h : stepsN20 vs f.flat rs ≤ n) : f.stepsT ≤ n := by
 unfold stepsN20 at h
 rw [if_pos hc, frOf_flat w] at h
 omega
theorem chk_all {vs : List Vr} {os rs : List Ko} (h : chkB vs os rs = true) : ∀ o ∈ os, oneB vs o = true := by
 obtain ⟨f, w, rfl, u, ha, _⟩ := chk_tree h
 exact ha
end Go.Sv
namespace Go.Sv
def vaC (v : List Nat) : List LV := v.map fun x => LU (toL x)
theorem vaC_len (v : List Nat) : (vaC v).length = v.length := by simp [vaC]
theorem LU_dat (a : List UInt64) : (LU a).dat = true := by
 simp only [LU, LV.dat]
 exact dats_map (fun _ => rfl) a
theorem vaC_dats (v : List Nat) : dats (vaC v) = true := dats_map (fun _ => LU_dat _) v
theorem vaC_at {v : List Nat} {i : Nat} (h : i < v.length) : (vaC v)[i]? = some (LU (toL (v.getD i 0))) := by
 simp [vaC, List.getD_eq_getElem?_getD, h]
theorem vaC_set (v : List Nat) (i x : Nat) : (vaC v).set i (LU (toL x)) = vaC (v.set i x) := by simp [vaC, List.map_set]
theorem vaC_rep (n : Nat) : vaC (List.replicate n 0) = List.replicate n (.lst [] 0 1) := by
 simp [vaC, LU, toL_zero]
theorem start_cells {n : Nat} (c : Cx) (r : List AV) (h : ARs c (repL [.nilSl] n) r) : ARs c (vaC (List.replicate n 0)) r := by
 rw [vaC_rep]; exact nils_lst n r h
def cV (v : List Nat) (i : Int) : LV := if i < 0 then .nilSl else LU (toL (v.getD i.toNat 0))
theorem cV_arg {c : Cx} {v : List Nat} {i : Int} {a : AV} (h : AR c (cV v i) a) : AR c (LU (toL (gN v i))) a := by
 unfold cV at h
 unfold gN
 by_cases g : i < 0
 ·rw [if_pos g] at h ⊢
  rw [toL_zero]
  exact nil_lst h
 ·rw [if_neg g] at h ⊢
  exact h
theorem cV_cells (v : List Nat) (i : Int) : (cV v i).cells = some [cV v i] := by
 unfold cV
 split <;> rfl
theorem cl_i (n : Int) : (LV.i n).cells = some [.i n] := rfl
theorem cl_u (n : UInt64) : (LV.u n).cells = some [.u n] := rfl
theorem cl_agg (l : List LV) : (LV.agg l).cells = some l := rfl
theorem cl_lst (l : List LV) (n m : Nat) : (LV.lst l n m).cells = some [.lst l n m] := rfl
theorem arg_ok {c : Cx} {v : List Nat} {l w a b d : Int} {n : UInt64} {r : List AV} (h : ARs c [.agg [.i l, .u n, cV v a, cV v b, cV v d, .i w]] r) : ARs c [.agg [.i l, .u n, LU (toL (gN v a)), LU (toL (gN v b)), LU (toL (gN v d)), .i w]] r := by
 cases h with
 | cons e es =>
  cases e with
  | agg h =>
   cases h with
   | cons e1 h => cases h with
    | cons e2 h => cases h with
     | cons e3 h => cases h with
      | cons e4 h => cases h with
       | cons e5 h => exact .cons (.agg (.cons e1 (.cons e2 (.cons (cV_arg e3) (.cons (cV_arg e4) (.cons (cV_arg e5) h)))))) es
theorem okV_len {vs : List Vr} {v : List Nat} (hv : varsB vs = true) (h : okV vs v) (i : Nat) : (toL (v.getD i 0)).length ≤ 512 := by
 by_cases hi : i < vs.length
 ·have h1 := h.2 i hi
  have h2 := varsB_limbs hv _ (gv_mem hi)
  have := toL_length_le h1
  omega
 ·rw [List.getD_eq_getElem?_getD, List.getElem?_eq_none (by rw [h.1]; omega)]
  simp [toL_zero]
theorem okV_lenN {vs : List Vr} {v : List Nat} (hv : varsB vs = true) (h : okV vs v) (i : Int) : (toL (gN v i)).length ≤ 512 := by
 unfold gN
 split
 ·simp [toL_zero]
 ·exact okV_len hv h _
def stM (os : List Ko) (es : List Int) : Nat → List Ko → List Nat → List Nat
 | _, [], st => st
 | i, o :: l, st => if o.kind = 15 then stM os es (i + 1) l (1 :: st) else if o.kind = 16 then (match st with
   | a :: b :: s => stM os es (i + 1) l (min cap40 (b + a * (go os (gd es i).toNat).imm.toNat) :: s)
   | _ => []) else (match st with
   | a :: s => stM os es (i + 1) l (min cap40 (a + 1) :: s)
   | [] => [])
theorem stM_tree {os : List Ko} {es : List Int} : ∀ (f : Fr Ko) (i s : Nat) (st : List Nat) (rest : List Ko) (rs : List Int), f.wf kdK → os.drop i = f.flat ++ rest → es.drop i = f.ends i ++ rs →
  stM os es i (f.flat ++ rest) (s :: st) = stM os es (i + f.size) rest (f.stepsD s :: st)
 | .nil, i, s, st, rest, rs, _, _, _ => by simp [Fr.flat, Fr.size, Fr.stepsD]
 | .op o r, i, s, st, rest, rs, w, h1, h2 => by
  simp only [Fr.flat, Fr.ends, List.cons_append] at h1 h2
  obtain ⟨a1, a2⟩ := drop_at h1
  obtain ⟨b1, b2⟩ := drop_at h2
  have k1 : ¬ o.kind = 15 := fun h => by have := w.1; simp [kdK, h] at this
  have k2 : ¬ o.kind = 16 := fun h => by have := w.1; simp [kdK, h] at this
  simp only [Fr.flat, List.cons_append, stM, k1, k2, if_false, Fr.stepsD, Fr.size]
  rw [stM_tree r (i + 1) _ st rest rs w.2 a2 b2, show i + 1 + r.size = i + (r.size + 1) by omega]
 | .loop o b e r, i, s, st, rest, rs, w, h1, h2 => by
  obtain ⟨w1, w2, w3, w4⟩ := w
  simp only [Fr.flat, Fr.ends, List.cons_append, List.append_assoc] at h1 h2
  obtain ⟨a1, a2⟩ := drop_at h1
  obtain ⟨b1, b2⟩ := drop_at h2
  have k15 := kd_1.1 w1
  have k16 := kd_2.1 w2
  have a3 := drop_more a2
  have b3 := drop_more b2
  rw [Fr.flat_len] at a3
  rw [Fr.ends_len] at b3
  obtain ⟨a4, a5⟩ := drop_at a3
  obtain ⟨b4, b5⟩ := drop_at b3
  have ge : gd es (i + 1 + b.size) = i := by simp [gd, List.getD_eq_getElem?_getD, b4]
  have gi : go os i = o := by simp [go, List.getD_eq_getElem?_getD, a1]
  have k1 : ¬ (16 : Int) = 15 := by omega
  simp only [Fr.flat, List.cons_append, List.append_assoc, stM, k15, if_true, Fr.stepsD, Fr.size]
  rw [stM_tree b (i + 1) 1 (s :: st) (e :: (r.flat ++ rest)) _ w3 a2 b2]
  simp only [stM, k16, k1, if_false, if_true, ge, Int.toNat_natCast, gi]
  have b6 : es.drop (i + 1 + b.size + 1) = r.ends (i + 1 + b.size + 1) ++ rs := by
   rw [b5]; congr 2; omega
  rw [stM_tree r (i + 1 + b.size + 1) _ st rest rs w4 a5 b6, show i + 1 + b.size + 1 + r.size = i + (b.size + r.size + 2) by omega]
theorem stM_all {os : List Ko} {f : Fr Ko} (hw : f.wf kdK) (hf : os = f.flat) : stM os (f.ends 0) 0 os [0] = [f.stepsD 0] := by
 have h := stM_tree (os := os) (es := f.ends 0) f 0 0 [] [] [] hw (by simp [hf]) (by simp)
 rw [List.append_nil, ← hf] at h
 rw [h]; simp [stM]
theorem steps_stM {vs : List Vr} {f : Fr Ko} {rs : List Ko} (w : f.wf kdK) (u : f.once) (hc : chkB vs f.flat rs = true) : f.stepsD 0 = stepsN20 vs f.flat rs := by
 rw [stepsD_eq f 0 u (Nat.zero_le _)]
 unfold stepsN20
 rw [if_pos hc, frOf_flat w, Nat.zero_add]
end Go.Sv
namespace Go.Sv
theorem zip_at {a b : List Nat} {j : Nat} (h1 : j < a.length) (h2 : j < b.length) : (a.zip b)[j]? = some (a.getD j 0, b.getD j 0) := by
 simp [List.getElem?_zip_eq_some, List.getD_eq_getElem?_getD, h1, h2]
theorem fitsD_iff {vs : List Vr} {ns : List Nat} (hl : (inV vs).length = ns.length) : fitsD vs ns = true ↔ ∀ j, j < ns.length → ns.getD j 0 < two64 (gv vs ((inV vs).getD j 0)).limbs := by
 unfold fitsD
 rw [List.all_eq_true]
 constructor
 ·intro h j hj
  have := h _ (List.mem_of_getElem? (zip_at (a := inV vs) (b := ns) (by omega) hj))
  exact of_decide_eq_true this
 ·intro h p hp
  obtain ⟨j, hj, rfl⟩ := List.mem_iff_getElem.1 hp
  have hj2 : j < ns.length := by simp at hj; omega
  have e := zip_at (a := inV vs) (b := ns) (j := j) (by omega) hj2
  rw [List.getElem?_eq_getElem hj] at e
  rw [Option.some.inj e]
  exact decide_eq_true (h j hj2)
theorem long_iff (n : Nat) (l : Int) (h : 0 ≤ l) : ((toL n).length : Int) ≤ l ↔ n < two64 l := by
 unfold two64
 rw [← toL_len_iff]
 omega
theorem fill_cut {a b : List Nat} {j : Nat} (h1 : j < a.length) (h2 : j < b.length) (v : List Nat) : ((a.zip b).drop j).foldl (fun v p => v.set p.1 p.2) v = ((a.zip b).drop (j + 1)).foldl (fun v p => v.set p.1 p.2) (v.set (a.getD j 0) (b.getD j 0)) := by
 have e := zip_at h1 h2
 have h3 : j < (a.zip b).length := by simp; omega
 rw [List.getElem?_eq_getElem h3] at e
 rw [List.drop_eq_getElem_cons h3, Option.some.inj e]
 rfl
theorem met_c {o : Ko} {v : List Nat} (h : metB o v = true) (hk : o.kind = 9 ∨ o.kind = 10 ∨ o.kind = 11 ∨ o.kind = 12 ∨ o.kind = 13) : gN v o.c ≠ 0 := by
 rcases hk with hk | hk | hk | hk | hk <;> simp [metB, needsL, hk, holdsB] at h <;> omega
theorem inV_len (vs : List Vr) : (inV vs).length ≤ vs.length := by
 have := List.length_filter_le (fun i => givenB (gv vs i)) (List.range vs.length)
 simpa [inV] using this
theorem inV_at {vs : List Vr} {j : Nat} (h : j < (inV vs).length) : (inV vs).getD j 0 < vs.length := by
 have : (inV vs).getD j 0 ∈ inV vs := by
  rw [List.getD_eq_getElem?_getD, List.getElem?_eq_getElem h]
  exact List.getElem_mem h
 exact inV_lt this
def thoseV (p : Vr → Bool) (vs : List Vr) (n : Nat) : List Nat := (List.range n).filter fun i => p (gv vs i)
theorem thoseV_succ (p : Vr → Bool) (vs : List Vr) (n : Nat) : thoseV p vs (n + 1) = thoseV p vs n ++ if p (gv vs n) = true then [n] else [] := by
 unfold thoseV
 rw [List.range_succ, List.filter_append]
 congr 1
 by_cases h : p (gv vs n) = true <;> simp [h]
theorem thoseV_len (p : Vr → Bool) (vs : List Vr) (n : Nat) : (thoseV p vs n).length ≤ n := by
 have := List.length_filter_le (fun i => p (gv vs i)) (List.range n)
 simpa [thoseV] using this
theorem inV_those (vs : List Vr) : inV vs = thoseV givenB vs vs.length := rfl
theorem outV_those (vs : List Vr) : outV vs = thoseV (fun v => decide (v.mode = 3)) vs vs.length := rfl
def inZ (vs : List Vr) (os rs : List Ko) : List Nat := if chkB vs os rs = true then inV vs else []
def outZ (vs : List Vr) (os rs : List Ko) : List Nat := if chkB vs os rs = true then outV vs else []
end Go.Sv
namespace Go.Sv
def fcF (f : Fc) : List LV := [.i f.1, .i f.2.1, .i f.2.2]
def fcC (l : List Fc) : List LV := l.flatMap fcF
theorem fcF_len (f : Fc) : (fcF f).length = 3 := rfl
theorem fcC_dats (l : List Fc) : dats (fcC l) = true := fm_dats (f := fcF) (fun _ => rfl) l
theorem fc_three {l : List Fc} {i : Nat} (h : i < l.length) : ((fcC l).drop (i * 3)).take 3 = fcF l[i] := fm_take (f := fcF) fcF_len (List.getElem?_eq_getElem h)
theorem fc_lt {l : List Fc} {i : Nat} (h : i < l.length) : i * 3 + 3 ≤ (fcC l).length := fm_lt (f := fcF) fcF_len h
theorem needs_len (o : Ko) : (needsL o).length ≤ 3 := by
 unfold needsL
 repeat' split
 all_goals simp
theorem blen_pos (n : Nat) : (0 : Int) < (blen n : Int) ↔ 0 < n := by
 unfold blen
 by_cases h : n = 0
 ·simp [h]
 ·rw [if_neg h]; omega
theorem not_any_not {α : Type} (p : α → Bool) (l : List α) : (!(l.any fun x => !p x)) = l.all p := by
 induction l with
 | nil => rfl
 | cons a l ih => simp only [List.any_cons, List.all_cons, Bool.not_or, Bool.not_not, ih]
theorem len_lt {x c k : Nat} (h : x < c) (hc : (toL c).length ≤ k) : (toL x).length ≤ k := toL_length_le (Nat.lt_trans h (lt_of_toL_length hc))
theorem len_mul {x y k m : Nat} (hx : (toL x).length ≤ k) (hy : (toL y).length ≤ m) : (toL (x * y)).length ≤ k + m := by
 refine toL_length_le ?_
 have := Nat.mul_lt_mul'' (lt_of_toL_length hx) (lt_of_toL_length hy)
 rw [← Nat.pow_add, ← Nat.mul_add] at this
 exact this
theorem len_add {x y k : Nat} (hx : (toL x).length ≤ k) (hy : (toL y).length ≤ k) : (toL (x + y)).length ≤ k + 1 := by
 refine toL_length_le ?_
 have h1 := lt_of_toL_length hx
 have h2 := lt_of_toL_length hy
 rw [pow64_succ]
 omega
theorem low_len {k : Nat} (x : Nat) (l : Int) (hl : l ≤ k) : (toL (x % two64 l)).length ≤ k := by
 have h : x % two64 l < 2 ^ (64 * l.toNat) := Nat.mod_lt _ (two64_pos l)
 have := toL_length_le h
 omega
theorem top_len {k : Nat} (l : Int) (hl : l ≤ k) : (toL (two64 l)).length ≤ k + 1 := by
 refine toL_length_le ?_
 have h : two64 l ≤ 2 ^ (64 * k) := Nat.pow_le_pow_right (by decide) (by omega)
 have h2 : 0 < 2 ^ (64 * k) := Nat.pow_pos (by decide)
 rw [pow64_succ]
 omega
theorem len_le {x y k : Nat} (h : x ≤ y) (hy : (toL y).length ≤ k) : (toL x).length ≤ k := toL_length_le (Nat.lt_of_le_of_lt h (lt_of_toL_length hy))
def lpF (x : Int × Nat) : List LV := [.i x.1, .u (UInt64.ofNat x.2)]
def lpC (l : List (Int × Nat)) : List LV := l.reverse.flatMap lpF
theorem lpC_len (l : List (Int × Nat)) : (lpC l).length = l.length * 2 := by
 have := fm_len (f := lpF) (k := 2) (fun _ => rfl) l.reverse
 simpa [lpC] using this
theorem lpC_cons (x : Int × Nat) (l : List (Int × Nat)) : lpC (x :: l) = lpC l ++ lpF x := by simp [lpC]
theorem lpC_at (x : Int × Nat) (l : List (Int × Nat)) : (lpC (x :: l))[l.length * 2 + 1]? = some (.u (UInt64.ofNat x.2)) := by
 rw [lpC_cons, List.getElem?_append_right (by rw [lpC_len]; omega), lpC_len, show l.length * 2 + 1 - l.length * 2 = 1 by omega]; rfl
theorem lpC_set (e : Int) (m m' : Nat) (l : List (Int × Nat)) : (lpC ((e, m) :: l)).set (l.length * 2 + 1) (.u (UInt64.ofNat m')) = lpC ((e, m') :: l) := by
 rw [lpC_cons, lpC_cons, List.set_append, if_neg (by rw [lpC_len]; omega), lpC_len, show l.length * 2 + 1 - l.length * 2 = 1 by omega]; rfl
theorem lpC_take (x : Int × Nat) (l : List (Int × Nat)) : (lpC (x :: l)).take (l.length * 2) = lpC l := by
 rw [lpC_cons, List.take_left' (lpC_len l)]
theorem abc_lt {vs : List Vr} {o : Ko} (h : oneB vs o = true) : o.a < vs.length ∧ o.b < vs.length ∧ o.c < vs.length := by
 have ht := (one_in h).takes
 have key : ∀ x ∈ [o.a, o.b, o.c], x < vs.length := fun x hx => by
  by_cases g : x < 0
  ·omega
  ·refine (ht x ?_).2
   unfold takesL
   exact List.mem_append_left _ (List.mem_filter.2 ⟨hx, by simpa using g⟩)
 exact ⟨key _ (by simp), key _ (by simp), key _ (by simp)⟩
theorem ends_end : ∀ (f : Fr Ko) (i j : Nat), f.wf kdK → ∀ o, f.flat[j]? = some o → o.kind = 16 → ∃ e : Nat, (f.ends i)[j]? = some (e : Int) ∧ e < i + f.size
 | .nil, i, j, _, o, h, _ => by simp [Fr.flat] at h
 | .op o r, i, 0, w, x, h, hk => by
  simp [Fr.flat] at h
  subst h
  have := w.1
  simp [kdK, hk] at this
 | .op o r, i, j + 1, w, x, h, hk => by
  simp only [Fr.flat, List.getElem?_cons_succ] at h
  obtain ⟨e, h1, h2⟩ := ends_end r (i + 1) j w.2 x h hk
  exact ⟨e, by simpa [Fr.ends] using h1, by simp only [Fr.size]; omega⟩
 | .loop o b e r, i, 0, w, x, h, hk => by
  simp [Fr.flat] at h
  subst h
  have := kd_1.1 w.1
  omega
 | .loop o b e r, i, j + 1, w, x, h, hk => by
  obtain ⟨_, _, w3, w4⟩ := w
  simp only [Fr.flat, List.getElem?_cons_succ] at h
  simp only [Fr.ends, List.getElem?_cons_succ, Fr.size]
  by_cases h1 : j < b.size
  ·rw [List.getElem?_append_left (by rw [Fr.flat_len]; exact h1)] at h
   rw [List.getElem?_append_left (by rw [Fr.ends_len]; exact h1)]
   obtain ⟨y, q1, q2⟩ := ends_end b (i + 1) j w3 x h hk
   exact ⟨y, q1, by omega⟩
  ·rw [List.getElem?_append_right (by rw [Fr.flat_len]; omega), Fr.flat_len] at h
   rw [List.getElem?_append_right (by rw [Fr.ends_len]; omega), Fr.ends_len]
   by_cases h2 : j = b.size
   ·exact ⟨i, by rw [h2]; simp, by omega⟩
   ·obtain ⟨m, hm⟩ : ∃ m, j - b.size = m + 1 := ⟨j - b.size - 1, by omega⟩
    rw [hm, List.getElem?_cons_succ] at h ⊢
    obtain ⟨y, q1, q2⟩ := ends_end r (i + b.size + 2) m w4 x h hk
    exact ⟨y, q1, by omega⟩
theorem cost_le : ∀ f : Fr Ko, f.once → f.cost ≤ 2 * f.stepsT
 | .nil, _ => Nat.le_refl _
 | .op _ r, u => by have := cost_le r u; simp only [Fr.cost, Fr.stepsT]; omega
 | .loop o b _ r, u => by
  have h1 := cost_le b u.2.1
  have h2 := cost_le r u.2.2
  have h3 := u.1
  simp only [Fr.cost, Fr.stepsT]
  have h4 : o.imm.toNat * (b.cost + 1) ≤ o.imm.toNat * (2 * b.stepsT + 1) := Nat.mul_le_mul_left _ (by omega)
  have h5 : o.imm.toNat * (2 * b.stepsT + 1) + o.imm.toNat = 2 * (o.imm.toNat * (1 + b.stepsT)) := by
   rw [Nat.mul_add, Nat.mul_add, Nat.mul_left_comm]; omega
  omega
theorem end_at {vs : List Vr} {os rs : List Ko} (hc : chkB vs os rs = true) {i : Nat} {o : Ko} (ho : os[i]? = some o) (hk : o.kind = 16) : 0 ≤ gd (endsL kdK os) i ∧ gd (endsL kdK os) i < os.length := by
 obtain ⟨f, w, rfl, _⟩ := chk_tree hc
 rw [endsL_tree w]
 obtain ⟨e, h1, h2⟩ := ends_end f 0 i w o ho hk
 have : gd (f.ends 0) i = e := by simp [gd, List.getD_eq_getElem?_getD, h1]
 rw [this, Fr.flat_len]
 omega
theorem loop_imm {vs : List Vr} {o : Ko} (h : oneB vs o = true) (hk : o.kind = 15) : 1 ≤ o.imm.toNat ∧ o.imm.toNat ≤ 4096 := by
 obtain ⟨_, hn, _⟩ := one_parts (s := 0) h (by simp [shapeN, hk])
 simp [numB, hk] at hn
 exact ⟨UInt64.le_iff_toNat_le.1 hn.1, UInt64.le_iff_toNat_le.1 hn.2⟩
def runC (vs : List Vr) (os rs : List Ko) (E V L : LV) : List LV := [.lst (vsC vs) vs.length 3, .lst (osC os) os.length 7, .lst (osC rs) rs.length 7, E, V, L]
end Go.Sv
namespace Go.Sv
theorem run_mrun2 {vs : List Vr} {os rs : List Ko} (hc : chkB vs os rs = true) (hs : stepsN20 vs os rs ≤ 16384) (v : List Nat) : ∃ n, n ≤ 100000 ∧ mrun vs os (endsL kdK os) n 0 v [] = some ((frOf os).exec vs v) := by
 obtain ⟨f, w, rfl, u, _⟩ := chk_tree hc
 have h1 := steps_le w hc (by decide) hs
 have h2 := cost_le f u
 exact ⟨f.cost + 1, by omega, by rw [endsL_tree w, frOf_flat w]; exact mrun_all w u rfl v⟩
theorem stepsR_le : ∀ (f : Fr Ko) (n : Nat), n ≤ cap40 → f.stepsR n ≤ cap40
 | .nil, _, h => h
 | .op _ r, _, _ => stepsR_le r _ (Nat.min_le_right _ _)
 | .loop _ _ _ r, _, _ => stepsR_le r _ (Nat.min_le_right _ _)
theorem steps_R {vs : List Vr} {f : Fr Ko} {rs : List Ko} (w : f.wf kdK) (u : f.once) (hc : chkB vs f.flat rs = true) : f.stepsR 0 = stepsN20 vs f.flat rs := by
 rw [stepsR_eq f 0 u (Nat.zero_le _)]
 unfold stepsN20
 rw [if_pos hc, frOf_flat w, Nat.zero_add]
theorem fm_takeN {α : Type} {f : α → List LV} {k : Nat} (hf : ∀ a, (f a).length = k) : ∀ (l : List α) (i : Nat), (l.flatMap f).take (i * k) = (l.take i).flatMap f
 | [], i => by simp
 | a :: l, 0 => by simp
 | a :: l, i + 1 => by
  rw [List.flatMap_cons, List.take_succ_cons, List.flatMap_cons, Nat.add_mul, Nat.one_mul, List.take_append, List.take_of_length_le (by rw [hf]; omega), hf, Nat.add_sub_cancel, fm_takeN hf l i]
theorem osC_take (os : List Ko) (n : Nat) : (osC os).take (n * 7) = osC (os.take n) := fm_takeN Ko.f_len os n
theorem osC_drop (os : List Ko) (n : Nat) : (osC os).drop (n * 7) = osC (os.drop n) := fm_drop Ko.f_len os n
theorem min_cast (a C : Nat) : min (a : Int) (C : Int) = ((min a C : Nat) : Int) := by omega
theorem cap_int : ((cap40 : Nat) : Int) = 1099511627776 := rfl
theorem min40 (a : Nat) : min (a : Int) 1099511627776 = ((min a cap40 : Nat) : Int) := by rw [← cap_int]; exact min_cast _ _
theorem min40' (a : Nat) : min 1099511627776 (a : Int) = ((min cap40 a : Nat) : Int) := by rw [← cap_int]; exact min_cast _ _
theorem ends_loop : ∀ (f : Fr Ko) (i j : Nat), f.wf kdK → ∀ o, f.flat[j]? = some o → o.kind = 16 → ∃ e : Nat, (f.ends i)[j]? = some ((i + e : Nat) : Int) ∧ ∃ x, f.flat[e]? = some x ∧ x.kind = 15
 | .nil, i, j, _, o, h, _ => by simp [Fr.flat] at h
 | .op o r, i, 0, w, x, h, hk => by
  simp [Fr.flat] at h
  subst h
  have := w.1
  simp [kdK, hk] at this
 | .op o r, i, j + 1, w, x, h, hk => by
  simp only [Fr.flat, List.getElem?_cons_succ] at h
  obtain ⟨e, h1, y, h2, h3⟩ := ends_loop r (i + 1) j w.2 x h hk
  exact ⟨e + 1, by simp only [Fr.ends, List.getElem?_cons_succ]; rw [h1]; congr 2; omega, y, by simpa [Fr.flat] using h2, h3⟩
 | .loop o b e r, i, 0, w, x, h, hk => by
  simp [Fr.flat] at h
  subst h
  have := kd_1.1 w.1
  omega
 | .loop o b e r, i, j + 1, w, x, h, hk => by
  obtain ⟨w1, _, w3, w4⟩ := w
  simp only [Fr.flat, List.getElem?_cons_succ] at h
  simp only [Fr.ends, List.getElem?_cons_succ, Fr.flat]
  by_cases h1 : j < b.size
  ·rw [List.getElem?_append_left (by rw [Fr.flat_len]; exact h1)] at h
   rw [List.getElem?_append_left (by rw [Fr.ends_len]; exact h1)]
   obtain ⟨y, q1, z, q2, q3⟩ := ends_loop b (i + 1) j w3 x h hk
   refine ⟨y + 1, by rw [q1]; congr 2; omega, z, ?_, q3⟩
   rw [List.getElem?_cons_succ, List.getElem?_append_left (List.getElem?_eq_some_iff.1 q2).1]; exact q2
  ·rw [List.getElem?_append_right (by rw [Fr.flat_len]; omega), Fr.flat_len] at h
   rw [List.getElem?_append_right (by rw [Fr.ends_len]; omega), Fr.ends_len]
   by_cases h2 : j = b.size
   ·exact ⟨0, by rw [h2]; simp, o, by simp, kd_1.1 w1⟩
   ·obtain ⟨m, hm⟩ : ∃ m, j - b.size = m + 1 := ⟨j - b.size - 1, by omega⟩
    rw [hm, List.getElem?_cons_succ] at h ⊢
    obtain ⟨y, q1, z, q2, q3⟩ := ends_loop r (i + b.size + 2) m w4 x h hk
    refine ⟨b.size + 2 + y, by rw [q1]; congr 2; omega, z, ?_, q3⟩
    rw [show b.size + 2 + y = (b.size + (y + 1)) + 1 by omega, List.getElem?_cons_succ, List.getElem?_append_right (by rw [Fr.flat_len]; omega), Fr.flat_len, show b.size + (y + 1) - b.size = y + 1 by omega, List.getElem?_cons_succ]
    exact q2
theorem end_imm {vs : List Vr} {os rs : List Ko} (hc : chkB vs os rs = true) {i : Nat} {o : Ko} (ho : os[i]? = some o) (hk : o.kind = 16) : (go os (gd (endsL kdK os) i).toNat).imm.toNat ≤ 4096 := by
 obtain ⟨f, w, rfl, u, ha, _⟩ := chk_tree hc
 rw [endsL_tree w]
 obtain ⟨e, h1, x, h2, h3⟩ := ends_loop f 0 i w o ho hk
 have e1 : gd (f.ends 0) i = e := by simp [gd, List.getD_eq_getElem?_getD, h1]
 have e2 : go f.flat e = x := by simp [go, List.getD_eq_getElem?_getD, h2]
 rw [e1, Int.toNat_natCast, e2]
 exact (loop_imm (ha x (List.mem_of_getElem? h2)) h3).2
end Go.Sv
namespace Go.Sv
theorem split_at {α : Type} {l : List α} {i : Nat} {a : α} (h : l[i]? = some a) : l = l.take i ++ a :: l.drop (i + 1) := by
 obtain ⟨hi, rfl⟩ := List.getElem?_eq_some_iff.1 h
 rw [List.getElem_cons_drop, List.take_append_drop]
theorem set_at {α : Type} {l : List α} {i : Nat} (h : i < l.length) (b : α) : l.set i b = l.take i ++ b :: l.drop (i + 1) := by
 rw [List.set_eq_take_append_cons_drop, if_pos h]
def withKind (o : Ko) (k : Int) : Ko := ⟨k, o.d, o.e, o.a, o.b, o.c, o.imm⟩
theorem lay_kind {l : List Ko} {i : Nat} {o : Ko} (h : l[i]? = some o) (k : Int) : layLV (osC l) (i * 7) [.i k] = osC (l.set i (withKind o k)) := by
 have hi := (List.getElem?_eq_some_iff.1 h).1
 have e1 : (osC l).drop (i * 7 + 1) = (osC (l.drop i)).drop 1 := by rw [← List.drop_drop, osC_drop]
 have e2 : l.drop i = o :: l.drop (i + 1) := by
  obtain ⟨_, rfl⟩ := List.getElem?_eq_some_iff.1 h
  exact List.drop_eq_getElem_cons hi
 have e3 : osC (o :: l.drop (i + 1)) = o.f ++ osC (l.drop (i + 1)) := by simp [osC]
 have e4 : osC (l.set i (withKind o k)) = osC (l.take i) ++ ((withKind o k).f ++ osC (l.drop (i + 1))) := by
  rw [set_at hi]; simp [osC]
 unfold layLV
 rw [osC_take, show i * 7 + [LV.i k].length = i * 7 + 1 from rfl, e1, e2, e3, e4, List.append_assoc]
 rfl
def curK (os : List Ko) (i : Nat) : List Ko := (os.take i).map unK ++ os.drop i
theorem curK_len (os : List Ko) (i : Nat) : (curK os i).length = os.length := by simp [curK]; omega
theorem curK_at {os : List Ko} {i : Nat} (h : i < os.length) : (curK os i)[i]? = some (go os i) := by
 unfold curK
 rw [List.getElem?_append_right (by simp; omega)]
 simp [Nat.min_eq_left (Nat.le_of_lt h), at_go h]
theorem curK_succ {os : List Ko} {i : Nat} (h : i < os.length) : curK os (i + 1) = (curK os i).set i (unK (go os i)) := by
 have e : os[i] = go os i := by have := at_go h; rw [List.getElem?_eq_getElem h] at this; exact Option.some.inj this
 unfold curK
 rw [List.set_append, if_neg (by simp; omega), List.take_succ_eq_append_getElem h, List.map_append, List.length_map, List.length_take, Nat.min_eq_left (Nat.le_of_lt h), Nat.sub_self, List.drop_eq_getElem_cons h, e]
 simp
theorem curK_all (os : List Ko) : curK os os.length = os.map unK := by simp [curK]
theorem curK_zero (os : List Ko) : curK os 0 = os := by simp [curK]
theorem curK_not {os : List Ko} {i : Nat} (h : i < os.length) (hk : (go os i).kind ≠ 6) : curK os (i + 1) = curK os i := by
 rw [curK_succ h]
 have : unK (go os i) = go os i := by unfold unK; rw [if_neg hk]
 rw [this]
 apply List.ext_getElem?
 intro j
 rw [List.getElem?_set]
 by_cases e : i = j
 ·subst e; rw [if_pos rfl, if_pos (by rw [curK_len]; exact h), curK_at h]
 ·rw [if_neg e]
theorem curK_six {os : List Ko} {i : Nat} (h : i < os.length) (hk : (go os i).kind = 6) : layLV (osC (curK os i)) (i * 7) [.i 5] = osC (curK os (i + 1)) := by
 rw [lay_kind (curK_at h), curK_succ h]
 congr 2
 unfold unK
 rw [if_pos hk]; rfl
def padZ (n : Nat) (x : List UInt64) : List UInt64 := x ++ List.replicate n 0
theorem padZ_val (n : Nat) (x : List UInt64) : val (padZ n x) = val x := by
 unfold padZ
 rw [val_append, val_rep0]; simp
theorem padZ_vals (n : Nat) (l : List (List UInt64)) : (l.map (padZ n)).map val = l.map val := by
 rw [List.map_map]
 apply List.map_congr_left
 intro x _
 exact padZ_val n x
theorem padZ_len (n : Nat) (x : List UInt64) : (padZ n x).length = x.length + n := by simp [padZ]
theorem melt_rows {P : Program} {t : LTgt} {args : List LV} {K : LV → LHeap → Prop} {X : List (List UInt64)} {L : Nat} : ∀ (d m : Nat) (G : LHeap) (C : List LV) (s : Nat), m + d = X.length → G[L]? = some (.dyn C X.length 1 0 s) → C.length = X.length → (∀ j, j < m → C[j]? = some (LU (X.getD j []))) →
  (∀ j, m ≤ j → j < X.length → C[j]? = some (.dy (L + 1 + j) 1) ∧ ∃ s, G[L + 1 + j]? = some (.dyn ((X.getD j []).map .u) (X.getD j []).length 1 1 s)) →
  (∀ G' s', G.length ≤ G'.length → (∀ q, q < L → G'[q]? = G[q]?) → G'[L]? = some (.dyn (X.map LU) X.length 1 0 s') → CallL P t args G' K) → CallL P t args G K
 | 0, m, G, C, s, hd, hG, hC, h1, _, k => by
  have : C = X.map LU := by
   apply List.ext_getElem?
   intro j
   by_cases hj : j < X.length
   ·rw [h1 j (by omega)]
    simp [List.getD_eq_getElem?_getD, hj]
   ·rw [List.getElem?_eq_none (by omega), List.getElem?_eq_none (by simpa using hj)]
  rw [this] at hG
  exact k G s (Nat.le_refl _) (fun _ _ => rfl) hG
 | d + 1, m, G, C, s, hd, hG, hC, h1, h2, k => by
  obtain ⟨c1, s1, g1⟩ := h2 m (Nat.le_refl _) (by omega)
  have hm : m < C.length := by omega
  have hs := split_at c1
  rw [hs] at hG
  have hLl : L < G.length := (List.getElem?_eq_some_iff.1 hG).1
  refine CallL_fzD g1 hG (by omega) ?_
  have e : C.take m ++ .lst ((X.getD m []).map .u) (X.getD m []).length 1 :: C.drop (m + 1) = C.set m (LU (X.getD m [])) := (set_at hm _).symm
  rw [e]
  refine melt_rows d (m + 1) _ (C.set m (LU (X.getD m []))) (s + 1) (by omega) (List.getElem?_set_self (by simpa using hLl)) (by simpa using hC) (fun j hj => ?_) (fun j hj1 hj2 => ?_) fun G' s' hl hf hG' => k G' s' (by simpa using hl) (fun q hq => ?_) hG'
  ·by_cases ej : m = j
   ·subst ej; rw [List.getElem?_set_self hm]
   ·rw [List.getElem?_set_ne ej]; exact h1 j (by omega)
  ·obtain ⟨c2, s2, g2⟩ := h2 j (by omega) hj2
   refine ⟨by rw [List.getElem?_set_ne (by omega)]; exact c2, s2, ?_⟩
   rw [List.getElem?_set_ne (by omega), List.getElem?_set_ne (by omega)]; exact g2
  ·rw [hf q hq, List.getElem?_set_ne (by omega), List.getElem?_set_ne (by omega)]
end Go.Sv
