/- Texts of the evaluator, of the logic over it, of plain arithmetic. -/
import Derived.Test.YtnbnhnjffiagmaaGreatSvG3
namespace Go.Sv
inductive Fr (α : Type) where
 | nil
 | op (o : α) (r : Fr α)
 | loop (o : α) (b : Fr α) (e : α) (r : Fr α)
section tree
variable {α : Type}
def Fr.flat : Fr α → List α
 | .nil => []
 | .op o r => o :: r.flat
 | .loop o b e r => o :: (b.flat ++ e :: r.flat)
def Fr.size : Fr α → Nat
 | .nil => 0
 | .op _ r => r.size + 1
 | .loop _ b _ r => b.size + r.size + 2
theorem Fr.flat_len : ∀ f : Fr α, f.flat.length = f.size
 | .nil => rfl
 | .op _ r => by simp [flat, size, flat_len r]
 | .loop _ b _ r => by simp [flat, size, flat_len b, flat_len r]; omega
def Fr.wf (kd : α → Nat) : Fr α → Prop
 | .nil => True
 | .op o r => kd o = 0 ∧ r.wf kd
 | .loop o b e r => kd o = 1 ∧ kd e = 2 ∧ b.wf kd ∧ r.wf kd
def bal (kd : α → Nat) : Nat → List α → Prop
 | d, [] => d = 0
 | d, o :: l => if kd o = 1 then bal kd (d + 1) l else if kd o = 2 then 0 < d ∧ bal kd (d - 1) l else kd o = 0 ∧ bal kd d l
theorem parse {kd : α → Nat} : ∀ (n : Nat) (l : List α) (d : Nat), l.length ≤ n → bal kd d l → ∃ (f : Fr α) (rest : List α), f.wf kd ∧ l = f.flat ++ rest ∧ ((d = 0 ∧ rest = []) ∨ ∃ (e : α) (rest' : List α) (d' : Nat), d = d' + 1 ∧ rest = e :: rest' ∧ kd e = 2 ∧ bal kd d' rest')
 | _, [], d, _, h => ⟨.nil, [], trivial, rfl, .inl ⟨h, rfl⟩⟩
 | n + 1, o :: l, d, hn, h => by
  have hn' : l.length ≤ n := by simpa using hn
  unfold bal at h
  by_cases h1 : kd o = 1
  ·rw [if_pos h1] at h
   obtain ⟨f1, r1, w1, e1, q1⟩ := parse n l (d + 1) hn' h
   rcases q1 with ⟨q, _⟩ | ⟨e, r2, d', hd, rfl, ke, hb⟩
   ·omega
   obtain rfl : d = d' := by omega
   have hl2 : r2.length ≤ n := by rw [e1] at hn'; simp at hn'; omega
   obtain ⟨f2, r3, w2, e2, q2⟩ := parse n r2 d hl2 hb
   refine ⟨.loop o f1 e f2, r3, ⟨h1, ke, w1, w2⟩, by rw [e1, e2]; simp [Fr.flat], q2⟩
  ·rw [if_neg h1] at h
   by_cases h2 : kd o = 2
   ·rw [if_pos h2] at h
    exact ⟨.nil, o :: l, trivial, rfl, .inr ⟨o, l, d - 1, by omega, rfl, h2, h.2⟩⟩
   ·rw [if_neg h2] at h
    obtain ⟨f1, r1, w1, e1, q1⟩ := parse n l d hn' h.2
    exact ⟨.op o f1, r1, ⟨h.1, w1⟩, by rw [e1]; rfl, q1⟩
theorem tree_of {kd : α → Nat} {l : List α} (h : bal kd 0 l) : ∃ f : Fr α, f.wf kd ∧ l = f.flat := by
 obtain ⟨f, r, w, e, q⟩ := parse l.length l 0 (Nat.le_refl _) h
 rcases q with ⟨_, rfl⟩ | ⟨_, _, _, h, _⟩
 ·exact ⟨f, w, by simpa using e⟩
 ·omega
def Fr.ends : Nat → Fr α → List Int
 | _, .nil => []
 | i, .op _ r => -1 :: r.ends (i + 1)
 | i, .loop _ b _ r => ((i + b.size + 1 : Nat) : Int) :: (b.ends (i + 1) ++ (i : Int) :: r.ends (i + b.size + 2))
theorem Fr.ends_len : ∀ (f : Fr α) (i : Nat), (f.ends i).length = f.size
 | .nil, _ => rfl
 | .op _ r, i => by simp [ends, size, ends_len r]
 | .loop _ b _ r, i => by simp [ends, size, ends_len b, ends_len r]; omega
def endsG (kd : α → Nat) : Nat → List Nat → List Int → List α → List Int
 | _, _, out, [] => out
 | i, st, out, o :: l => if kd o = 1 then endsG kd (i + 1) (i :: st) out l
  else if kd o = 2 then (match st with
   | [] => endsG kd (i + 1) [] out l
   | a :: st' => endsG kd (i + 1) st' ((out.set i a).set a i) l)
  else endsG kd (i + 1) st out l
theorem endsG_tree {kd : α → Nat} : ∀ (f : Fr α) (i : Nat) (st : List Nat) (out out' : List Int) (rest : List α), f.wf kd → out.length = i →
  endsG kd i st (out ++ List.replicate f.size (-1) ++ out') (f.flat ++ rest) = endsG kd (i + f.size) st (out ++ f.ends i ++ out') rest
 | .nil, i, st, out, out', rest, _, _ => by simp [Fr.flat, Fr.size, Fr.ends]
 | .op o r, i, st, out, out', rest, w, hl => by
  have h := endsG_tree r (i + 1) st (out ++ [-1]) out' rest w.2 (by simp [hl])
  have k1 : ¬ kd o = 1 := by rw [w.1]; decide
  have k2 : ¬ kd o = 2 := by rw [w.1]; decide
  simp only [Fr.flat, Fr.size, Fr.ends, List.cons_append, endsG, k1, k2, if_false, List.replicate_succ]
  simp only [List.append_assoc, List.cons_append, List.nil_append] at h ⊢
  rw [h]
  congr 1; omega
 | .loop o b e r, i, st, out, out', rest, w, hl => by
  obtain ⟨w1, w2, w3, w4⟩ := w
  have hb := endsG_tree b (i + 1) (i :: st) (out ++ [-1]) ([-1] ++ List.replicate r.size (-1) ++ out') (e :: (r.flat ++ rest)) w3 (by simp [hl])
  have hr := endsG_tree r (i + b.size + 2) st (out ++ [((i + b.size + 1 : Nat) : Int)] ++ b.ends (i + 1) ++ [(i : Int)]) out' rest w4 (by simp [hl, Fr.ends_len]; omega)
  have e1 : List.replicate (b.size + r.size + 2) (-1 : Int) = [-1] ++ List.replicate b.size (-1) ++ ([-1] ++ List.replicate r.size (-1)) := by
   rw [show b.size + r.size + 2 = 1 + b.size + (1 + r.size) by omega, ← List.replicate_append_replicate, ← List.replicate_append_replicate, ← List.replicate_append_replicate]; rfl
  simp only [Fr.flat, Fr.size, List.cons_append, endsG, w1, if_true]
  rw [e1]
  simp only [List.append_assoc, List.cons_append, List.nil_append] at hb hr ⊢
  rw [hb]
  simp only [endsG, w2, if_true]
  have hset : ((out ++ (-1 : Int) :: (b.ends (i + 1) ++ (-1 : Int) :: (List.replicate r.size (-1) ++ out'))).set (i + 1 + b.size) (i : Int)).set i ((i + 1 + b.size : Nat) : Int)
    = out ++ ((i + b.size + 1 : Nat) : Int) :: (b.ends (i + 1) ++ (i : Int) :: (List.replicate r.size (-1) ++ out')) := by
   rw [List.set_append_right _ _ (by omega), List.set_append_right _ _ (by omega), show i + 1 + b.size - out.length = b.size + 1 by omega, show i - out.length = 0 by omega, List.set_cons_succ, List.set_cons_zero,
    List.set_append_right _ _ (by rw [Fr.ends_len]; exact Nat.le_refl _), Fr.ends_len, Nat.sub_self, List.set_cons_zero, show i + 1 + b.size = i + b.size + 1 by omega]
  rw [hset, show i + 1 + b.size + 1 = i + b.size + 2 by omega, hr]
  simp only [Fr.ends, List.cons_append, List.append_assoc]
  rw [show i + (b.size + r.size + 2) = i + b.size + 2 + r.size by omega]
  simp [Nat.add_comm]
def endsL (kd : α → Nat) (l : List α) : List Int := endsG kd 0 [] (List.replicate l.length (-1)) l
theorem endsL_tree {kd : α → Nat} {f : Fr α} (w : f.wf kd) : endsL kd f.flat = f.ends 0 := by
 have h := endsG_tree f 0 [] [] [] [] w rfl
 simp only [List.append_nil, List.nil_append, endsG] at h
 rw [endsL, Fr.flat_len, h]
end tree
def kdK (o : Ko) : Nat := if o.kind = 15 then 1 else if o.kind = 16 then 2 else 0
theorem ogo_bal {vs : List Vr} : ∀ (l : List Ko) (m m' : List Bool) (d : Nat), ogo vs m d l = some (m', 0) → bal kdK d l
 | [], m, m', d, h => by
  unfold ogo at h
  cases h
  unfold bal; rfl
 | o :: l, m, m', d, h => by
  unfold ogo at h
  split at h
  ·rename_i hc
   simp only [Bool.and_eq_true, decide_eq_true_eq] at hc
   obtain ⟨_, _, h0, h4⟩ := hc
   unfold bal
   by_cases k1 : o.kind = 15
   ·rw [if_pos (by simp [kdK, k1])]
    rw [dl, if_pos k1] at h
    exact ogo_bal l _ m' (d + 1) (by simpa using h)
   ·rw [if_neg (by simp [kdK, k1]; split <;> simp)]
    by_cases k2 : o.kind = 16
    ·rw [if_pos (by simp [kdK, k2])]
     rw [dl, if_neg k1, if_pos k2] at h h0
     refine ⟨by omega, ogo_bal (vs := vs) l (stepM m o) m' (d - 1) ?_⟩
     rw [show ((d - 1 : Nat) : Int) = (d : Int) + -1 by omega]; exact h
    ·rw [if_neg (by simp [kdK, k1, k2])]
     rw [dl, if_neg k1, if_neg k2] at h
     exact ⟨by simp [kdK, k1, k2], ogo_bal l _ m' d (by simpa using h)⟩
  ·cases h
end Go.Sv
namespace Go.Sv
abbrev Sp := Int × Int
def Fr.tops {α : Type} : Nat → Fr α → List Sp
 | _, .nil => []
 | i, .op _ r => r.tops (i + 1)
 | i, .loop _ b _ r => ((i : Int), ((i + b.size + 1 : Nat) : Int)) :: r.tops (i + b.size + 2)
def gs (l : List Sp) (n : Nat) : Sp := l.getD n (0, 0)
structure Left (os : List Ko) (es : List Int) (T0 : List Sp) (i : Nat) (r : Fr Ko) (T : List Sp) : Prop where
 os : os.drop i = r.flat
 es : es.drop i = r.ends i
 wf : r.wf kdK
 tops : T0 = T ++ r.tops i
end Go.Sv
namespace Go.Sv
theorem gb_set (m : List Bool) (i j : Nat) (hi : i < m.length) : gb (m.set i true) j = if j = i then true else gb m j := by
 unfold gb
 rw [List.getD_eq_getElem?_getD, List.getD_eq_getElem?_getD, List.getElem?_set]
 by_cases h : i = j
 ·subst h; simp [hi]
 ·rw [if_neg h, if_neg (fun q => h q.symm)]
theorem varsB_len {vs : List Vr} (h : varsB vs = true) : 1 ≤ vs.length ∧ vs.length ≤ 256 := by
 unfold varsB at h
 split at h
 ·cases h
 ·simp only [Bool.and_eq_true, decide_eq_true_eq] at h; omega
theorem vgo_limbs : ∀ (l : List Vr) (i p r : Nat), vgo i p l = some r → ∀ v ∈ l, 1 ≤ v.limbs ∧ v.limbs ≤ 512 ∧ 0 ≤ v.mode ∧ v.mode ≤ 3
 | [], _, _, _, _, v, hv => by cases hv
 | w :: l, i, p, r, h, v, hv => by
  unfold vgo at h
  split at h
  ·cases h
  ·rename_i hb
   have hw : 1 ≤ w.limbs ∧ w.limbs ≤ 512 ∧ 0 ≤ w.mode ∧ w.mode ≤ 3 := by
    simp [vrBad] at hb; omega
   have key : ∀ r', vgo (i + 1) r' l = some r → 1 ≤ v.limbs ∧ v.limbs ≤ 512 ∧ 0 ≤ v.mode ∧ v.mode ≤ 3 := fun r' h' => by
    rcases List.mem_cons.1 hv with rfl | hv
    ·exact hw
    ·exact vgo_limbs l _ _ r h' v hv
   split at h
   ·exact key _ h
   ·split at h
    ·cases h
    ·exact key _ h
theorem varsB_limbs {vs : List Vr} (h : varsB vs = true) : ∀ v ∈ vs, 1 ≤ v.limbs ∧ v.limbs ≤ 512 ∧ 0 ≤ v.mode ∧ v.mode ≤ 3 := by
 unfold varsB at h
 split at h
 ·cases h
 ·rename_i p hp
  exact vgo_limbs vs 0 0 p hp
theorem gv_mem {vs : List Vr} {i : Nat} (h : i < vs.length) : gv vs i ∈ vs := List.mem_of_getElem? (at_gv h)
theorem limbs_at {vs : List Vr} (h : varsB vs = true) {v : Int} (h0 : 0 ≤ v) (h1 : v < vs.length) : 1 ≤ limbsAt vs v ∧ limbsAt vs v ≤ 512 := by
 have := varsB_limbs h _ (gv_mem (vs := vs) (i := v.toNat) (by omega))
 exact ⟨this.1, this.2.1⟩
theorem one_parts {vs : List Vr} {o : Ko} {s : Nat} (h : oneB vs o = true) (hs : shapeN o.kind = some s) : partsB vs.length s o = true ∧ numB o = true ∧ agreeB vs o = true := by
 unfold oneB at h
 split at h
 ·rename_i hk
  rw [hk] at hs; simp [shapeN] at hs
 ·rw [hs] at h
  simp only [Bool.and_eq_true] at h
  exact ⟨h.2.1, h.1, h.2.2.2.2.2⟩
theorem parts_c {n s : Nat} {o : Ko} (h : partsB n s o = true) (hb : s.testBit 4 = true) : 0 ≤ o.c ∧ o.c < n := by
 simp only [partsB, Bool.and_eq_true] at h; exact partOk_has h.2.2.2.2 hb
theorem parts_d {n s : Nat} {o : Ko} (h : partsB n s o = true) (hb : s.testBit 0 = true) : 0 ≤ o.d ∧ o.d < n := by
 simp only [partsB, Bool.and_eq_true] at h; exact partOk_has h.1 hb
abbrev TVr := { n : Int // inI n } × Bool × { n : Int // inI n } × Unit
abbrev TKo := { n : Int // inI n } × { n : Int // inI n } × { n : Int // inI n } × { n : Int // inI n } × { n : Int // inI n } × { n : Int // inI n } × UInt64 × Unit
def vrT (e : TVr) : Vr := ⟨e.1.1, e.2.1, e.2.2.1.1⟩
def koT (e : TKo) : Ko := ⟨e.1.1, e.2.1.1, e.2.2.1.1, e.2.2.2.1.1, e.2.2.2.2.1.1, e.2.2.2.2.2.1.1, e.2.2.2.2.2.2.1⟩
theorem flat_vr : ∀ l : List TVr, l.flatMap (fun x => [LV.i x.1.1, LV.bool x.2.1, LV.i x.2.2.1.1]) = vsC (l.map vrT)
 | [] => rfl
 | x :: l => by rw [List.flatMap_cons, flat_vr l]; rfl
theorem flat_ko : ∀ l : List TKo, l.flatMap (fun x => [LV.i x.1.1, LV.i x.2.1.1, LV.i x.2.2.1.1, LV.i x.2.2.2.1.1, LV.i x.2.2.2.2.1.1, LV.i x.2.2.2.2.2.1.1, LV.u x.2.2.2.2.2.2.1]) = osC (l.map koT)
 | [] => rfl
 | x :: l => by rw [List.flatMap_cons, flat_ko l]; rfl
def secU (vs : List Vr) (o : Ko) (s i : Nat) : Bool := (List.range i).any fun j => s.testBit j && ((decide (2 ≤ j) || decide (o.kind = 14)) && (gv vs (gd (ptL o) j).toNat).sec)
theorem partOk_bit {n s i : Nat} {v : Int} (h : partOk n s i v = true) : s.testBit i = !decide (v < 0) := by
 unfold partOk at h
 split at h
 ·rename_i hb
  have := thereB_iff.1 h
  rw [hb]; simp; omega
 ·rename_i hb
  have : v = -1 := of_decide_eq_true h
  subst this; simpa using hb
theorem secU_succ (vs : List Vr) (o : Ko) (s i : Nat) : secU vs o s (i + 1) = (secU vs o s i || (s.testBit i && ((decide (2 ≤ i) || decide (o.kind = 14)) && (gv vs (gd (ptL o) i).toNat).sec))) := by
 simp [secU, List.range_succ, List.any_append]
theorem secU_5 {vs : List Vr} {o : Ko} {n s : Nat} (hs : shapeN o.kind = some s) (hp : partsB n s o = true) : secU vs o s 5 = secB vs o := by
 simp only [partsB, Bool.and_eq_true] at hp
 obtain ⟨hd, he, ha, hb, hc⟩ := hp
 have h14 : o.kind = 14 → s = 19 := fun h => by have := shape_kinds hs; omega
 rw [show (5 : Nat) = 0 + 1 + 1 + 1 + 1 + 1 by rfl]
 simp only [secU_succ]
 rw [show secU vs o s 0 = false from rfl]
 rw [partOk_bit hd, partOk_bit he, partOk_bit ha, partOk_bit hb, partOk_bit hc]
 have g0 : gd (ptL o) 0 = o.d := rfl
 have g1 : gd (ptL o) (0 + 1) = o.e := rfl
 have g2 : gd (ptL o) (0 + 1 + 1) = o.a := rfl
 have g3 : gd (ptL o) (0 + 1 + 1 + 1) = o.b := rfl
 have g4 : gd (ptL o) (0 + 1 + 1 + 1 + 1) = o.c := rfl
 rw [g0, g1, g2, g3, g4]
 unfold secB takesL
 rw [List.any_append, List.any_filter]
 by_cases k : o.kind = 14
 ·have := h14 k
  subst this
  have bd := partOk_has hd (by decide)
  have be := partOk_has he (by decide)
  have d0 : decide (o.d < 0) = false := by simp; omega
  have e0 : decide (o.e < 0) = false := by simp; omega
  simp [k, d0, e0, Bool.or_comm, Bool.or_assoc]
 ·simp [k, Bool.or_assoc]
def takU (m : List Bool) (o : Ko) (i : Nat) : Bool := (List.range i).all fun j => !(!decide (gd (ptL o) j < 0) && (decide (2 ≤ j) || decide (o.kind = 14))) || gb m (gd (ptL o) j).toNat
theorem takU_succ (m : List Bool) (o : Ko) (i : Nat) : takU m o (i + 1) = (takU m o i && (!(!decide (gd (ptL o) i < 0) && (decide (2 ≤ i) || decide (o.kind = 14))) || gb m (gd (ptL o) i).toNat)) := by
 simp [takU, List.range_succ, List.all_append]
theorem takU_5 {n : Nat} {m : List Bool} {o : Ko} (hin : PartsIn n o) : takU m o 5 = takenB m o := by
 rw [show (5 : Nat) = 0 + 1 + 1 + 1 + 1 + 1 by rfl]
 simp only [takU_succ]
 rw [show takU m o 0 = true from rfl]
 have g0 : gd (ptL o) 0 = o.d := rfl
 have g1 : gd (ptL o) (0 + 1) = o.e := rfl
 have g2 : gd (ptL o) (0 + 1 + 1) = o.a := rfl
 have g3 : gd (ptL o) (0 + 1 + 1 + 1) = o.b := rfl
 have g4 : gd (ptL o) (0 + 1 + 1 + 1 + 1) = o.c := rfl
 rw [g0, g1, g2, g3, g4]
 unfold takenB takesL
 rw [List.all_append, List.all_filter]
 by_cases k : o.kind = 14
 ·have hd := hin.takes o.d (by simp [takesL, k])
  have he := hin.takes o.e (by simp [takesL, k])
  have d0 : decide (o.d < 0) = false := by simp; omega
  have e0 : decide (o.e < 0) = false := by simp; omega
  simp [k, d0, e0, Bool.and_comm, Bool.and_assoc]
 ·simp [k, Bool.and_assoc]
end Go.Sv
namespace Go.Sv
end Go.Sv
namespace Go.Sv
abbrev Fc := Int × Int × Int
def needsL (o : Ko) : List Fc :=
 if o.kind = 9 then [(3, o.c, -1)] else if o.kind = 10 ∨ o.kind = 11 then [(2, o.a, o.c), (2, o.b, o.c)] else if o.kind = 12 then [(1, o.c, -1), (2, o.a, o.c), (2, o.b, o.c)] else if o.kind = 13 then [(1, o.c, -1), (2, o.a, o.c)]
 else if o.kind = 17 then (if o.imm = 2 then [(2, o.a, o.b)] else if o.imm = 1 then [(1, o.a, -1)] else if o.imm = 3 then [(3, o.a, -1)] else []) else []
def gN (v : List Nat) (i : Int) : Nat := if i < 0 then 0 else v.getD i.toNat 0
def holdsB (f : Fc) (v : List Nat) : Bool :=
 thereB v.length f.2.1 && (if f.1 = 1 then decide (gN v f.2.1 % 2 = 1) else if f.1 = 3 then decide (0 < gN v f.2.1) else if f.1 = 2 then thereB v.length f.2.2 && decide (gN v f.2.1 < gN v f.2.2) else false)
def metB (o : Ko) (v : List Nat) : Bool := (needsL o).all fun f => holdsB f v
def two64 (n : Int) : Nat := 2 ^ (64 * n.toNat)
noncomputable def rawV (vs : List Vr) (o : Ko) (v : List Nat) : Nat :=
 let a := gN v o.a
 let b := gN v o.b
 let c := gN v o.c
 let w := two64 (limbsAt vs o.d)
 if o.kind = 1 then o.imm.toNat else if o.kind = 2 then a else if o.kind = 3 then a + b else if o.kind = 4 then a % w + w - b % w else if o.kind = 5 ∨ o.kind = 6 then a * b
 else if o.kind = 7 then (if a < b then 1 else 0) else if o.kind = 8 then (if c % 2 = 1 then a else b) else if o.kind = 9 then a % c else if o.kind = 10 then (a + b) % c else if o.kind = 11 then subM a b c
 else if o.kind = 12 then val (reR (toL (a * b)) (toL c) (limbsAt vs o.c)) else if o.kind = 13 then a ^ b % c else 0
noncomputable def opV (vs : List Vr) (o : Ko) (v : List Nat) : Nat := rawV vs o v % two64 (limbsAt vs o.d)
noncomputable def stepV (vs : List Vr) (o : Ko) (v : List Nat) : List Nat :=
 if o.kind = 14 then (if gN v o.c % 2 = 1 then (v.set o.d.toNat (gN v o.e)).set o.e.toNat (gN v o.d) else v) else if o.kind = 17 then v else v.set o.d.toNat (opV vs o v)
def iterO {α : Type} (f : α → Option α) : Nat → α → Option α
 | 0, v => some v
 | n + 1, v => match f v with
  | none => none
  | some w => iterO f n w
noncomputable def Fr.exec (vs : List Vr) : Fr Ko → List Nat → Option (List Nat)
 | .nil, v => some v
 | .op o r, v => if metB o v = true then r.exec vs (stepV vs o v) else none
 | .loop o b _ r, v => match iterO (fun w => b.exec vs w) o.imm.toNat v with
  | none => none
  | some w => r.exec vs w
noncomputable def mrun (vs : List Vr) (os : List Ko) (es : List Int) : Nat → Nat → List Nat → List (Int × Nat) → Option (Option (List Nat))
 | 0, _, _, _ => none
 | n + 1, i, v, stk => match os[i]? with
  | none => some (some v)
  | some o => if metB o v = true then
    (if o.kind = 15 then mrun vs os es n (i + 1) v ((gd es i, o.imm.toNat) :: stk)
    else if o.kind = 16 then (match stk with
     | [] => none
     | (e, l) :: s => if 1 < l then mrun vs os es n ((gd es i).toNat + 1) v ((e, l - 1) :: s) else mrun vs os es n (i + 1) v s)
    else mrun vs os es n (i + 1) (stepV vs o v) stk)
   else some none
theorem mrun_succ (vs : List Vr) (os : List Ko) (es : List Int) (n i : Nat) (v : List Nat) (stk : List (Int × Nat)) : mrun vs os es (n + 1) i v stk = match os[i]? with
  | none => some (some v)
  | some o => if metB o v = true then
    (if o.kind = 15 then mrun vs os es n (i + 1) v ((gd es i, o.imm.toNat) :: stk)
    else if o.kind = 16 then (match stk with
     | [] => none
     | (e, l) :: s => if 1 < l then mrun vs os es n ((gd es i).toNat + 1) v ((e, l - 1) :: s) else mrun vs os es n (i + 1) v s)
    else mrun vs os es n (i + 1) (stepV vs o v) stk)
   else some none := rfl
def Fr.cost : Fr Ko → Nat
 | .nil => 0
 | .op _ r => r.cost + 1
 | .loop o b _ r => 1 + o.imm.toNat * (b.cost + 1) + r.cost
def Fr.once : Fr Ko → Prop
 | .nil => True
 | .op _ r => r.once
 | .loop o b _ r => 1 ≤ o.imm.toNat ∧ b.once ∧ r.once
theorem met_loop {o : Ko} (h : o.kind = 15 ∨ o.kind = 16) (v : List Nat) : metB o v = true := by
 have : needsL o = [] := by
  unfold needsL
  rcases h with h | h <;> simp [h]
 simp [metB, this]
theorem kd_1 {o : Ko} : kdK o = 1 ↔ o.kind = 15 := by unfold kdK; split <;> (try split) <;> simp_all
theorem kd_2 {o : Ko} : kdK o = 2 ↔ o.kind = 16 := by
 unfold kdK
 by_cases h : o.kind = 15
 ·simp [h]
 ·by_cases h2 : o.kind = 16 <;> simp [h, h2]
theorem drop_at {α : Type} {l r : List α} {i : Nat} {a : α} (h : l.drop i = a :: r) : l[i]? = some a ∧ l.drop (i + 1) = r := by
 refine ⟨?_, ?_⟩
 ·have := congrArg (fun l : List α => l[0]?) h
  simpa using this
 ·rw [← List.drop_drop, h]; rfl
theorem drop_more {α : Type} {l a b : List α} {i : Nat} (h : l.drop i = a ++ b) : l.drop (i + a.length) = b := by
 rw [← List.drop_drop, h, List.drop_left]
theorem mrun_tree {vs : List Vr} {os : List Ko} {es : List Int} : ∀ (f : Fr Ko) (i : Nat) (v : List Nat) (stk : List (Int × Nat)) (n : Nat) (rest : List Ko) (rs : List Int), f.wf kdK → f.once → os.drop i = f.flat ++ rest → es.drop i = f.ends i ++ rs →
  mrun vs os es (f.cost + n) i v stk = match f.exec vs v with
   | none => some none
   | some w => mrun vs os es n (i + f.size) w stk
 | .nil, i, v, stk, n, rest, rs, _, _, _, _ => by simp [Fr.cost, Fr.exec, Fr.size]
 | .op o r, i, v, stk, n, rest, rs, w, u, h1, h2 => by
  simp only [Fr.flat, Fr.ends, List.cons_append] at h1 h2
  obtain ⟨a1, a2⟩ := drop_at h1
  obtain ⟨b1, b2⟩ := drop_at h2
  have k1 : ¬ o.kind = 15 := fun h => by have := w.1; simp [kdK, h] at this
  have k2 : ¬ o.kind = 16 := fun h => by have := w.1; simp [kdK, h] at this
  rw [show Fr.cost (.op o r) + n = (r.cost + n) + 1 by simp [Fr.cost]; omega, mrun_succ]
  simp only [a1, k1, k2, if_false, Fr.exec, Fr.size]
  by_cases hm : metB o v = true
  ·rw [if_pos hm, if_pos hm, mrun_tree r (i + 1) _ stk n rest rs w.2 u a2 b2]
   rw [show i + (r.size + 1) = i + 1 + r.size by omega]
  ·rw [if_neg hm, if_neg hm]
 | .loop o b e r, i, v, stk, n, rest, rs, w, u, h1, h2 => by
  obtain ⟨w1, w2, w3, w4⟩ := w
  obtain ⟨u1, u2, u3⟩ := u
  simp only [Fr.flat, Fr.ends, List.cons_append, List.append_assoc] at h1 h2
  obtain ⟨a1, a2⟩ := drop_at h1
  obtain ⟨b1, b2⟩ := drop_at h2
  have k15 := kd_1.1 w1
  have k16 := kd_2.1 w2
  have a3 := drop_more a2
  have b3 := drop_more b2
  rw [Fr.flat_len] at a3
  rw [Fr.ends_len] at b3
  obtain ⟨a4, a5⟩ := drop_at a3
  obtain ⟨b4, b5⟩ := drop_at b3
  have ge : gd es (i + 1 + b.size) = i := by simp [gd, List.getD_eq_getElem?_getD, b4]
  have hr : ∀ w', mrun vs os es (r.cost + n) (i + 1 + b.size + 1) w' stk = match r.exec vs w' with
    | none => some none
    | some w => mrun vs os es n (i + (b.size + r.size + 2)) w stk := fun w' => by
   have b6 : es.drop (i + 1 + b.size + 1) = r.ends (i + 1 + b.size + 1) ++ rs := by
    rw [b5]; congr 2; omega
   rw [mrun_tree r (i + 1 + b.size + 1) w' stk n rest rs w4 u3 a5 b6, show i + 1 + b.size + 1 + r.size = i + (b.size + r.size + 2) by omega]
  have key : ∀ (l : Nat) (v' : List Nat), 1 ≤ l → mrun vs os es (l * (b.cost + 1) + (r.cost + n)) (i + 1) v' ((gd es i, l) :: stk) = match iterO (fun w => b.exec vs w) l v' with
    | none => some none
    | some w => mrun vs os es (r.cost + n) (i + 1 + b.size + 1) w stk := by
   intro l
   induction l with
   | zero => intro v' h; omega
   | succ l ih =>
    intro v' _
    rw [show (l + 1) * (b.cost + 1) + (r.cost + n) = b.cost + ((l * (b.cost + 1) + (r.cost + n)) + 1) by rw [Nat.add_mul]; omega]
    rw [mrun_tree b (i + 1) v' _ _ (e :: (r.flat ++ rest)) ((i : Int) :: (r.ends (i + b.size + 2) ++ rs)) w3 u2 a2 b2]
    simp only [iterO]
    cases hb : b.exec vs v' with
    | none => rfl
    | some v2 =>
     dsimp only
     rw [mrun_succ]
     have m1 : metB e v2 = true := met_loop (.inr k16) v2
     have k1 : ¬ e.kind = 15 := by omega
     simp only [a4]
     rw [if_pos m1, if_neg k1, if_pos k16]
     simp only [ge, Int.toNat_natCast]
     cases l with
     | zero =>
      simp only [iterO, Nat.zero_add, Nat.zero_mul]
      rw [if_neg (by omega)]
     | succ l =>
      rw [if_pos (by omega), Nat.add_sub_cancel]
      exact ih v2 (by omega)
  rw [show Fr.cost (.loop o b e r) + n = (o.imm.toNat * (b.cost + 1) + (r.cost + n)) + 1 by simp [Fr.cost]; omega, mrun_succ]
  have m1 : metB o v = true := met_loop (.inl k15) v
  simp only [a1, Fr.exec, Fr.size]
  rw [if_pos m1, if_pos k15, key _ v u1]
  cases iterO (fun w => b.exec vs w) o.imm.toNat v with
  | none => rfl
  | some w' => exact hr w'
theorem mrun_all {vs : List Vr} {os : List Ko} {f : Fr Ko} (hw : f.wf kdK) (hu : f.once) (hf : os = f.flat) (v : List Nat) : mrun vs os (f.ends 0) (f.cost + 1) 0 v [] = some (f.exec vs v) := by
 rw [mrun_tree f 0 v [] 1 [] [] hw hu (by simp [hf]) (by simp)]
 cases f.exec vs v with
 | none => rfl
 | some w =>
  dsimp only
  rw [show (1 : Nat) = 0 + 1 from rfl, mrun_succ, Nat.zero_add]
  have : os[f.size]? = none := by rw [hf]; simp [Fr.flat_len]
  rw [this]
end Go.Sv
namespace Go.Sv
def cap40 : Nat := 1099511627776
def Fr.stepsT : Fr Ko → Nat
 | .nil => 0
 | .op _ r => r.stepsT + 1
 | .loop o b _ r => o.imm.toNat * (1 + b.stepsT) + r.stepsT
def Fr.stepsD : Fr Ko → Nat → Nat
 | .nil, s => s
 | .op _ r, s => r.stepsD (min cap40 (s + 1))
 | .loop o b _ r, s => r.stepsD (min cap40 (s + b.stepsD 1 * o.imm.toNat))
def Fr.stepsR : Fr Ko → Nat → Nat
 | .nil, n => n
 | .op _ r, n => r.stepsR (min (n + 1) cap40)
 | .loop o b _ r, n => r.stepsR (min (n + o.imm.toNat * (1 + b.stepsR 0)) cap40)
theorem min_mul_cap {C s x m : Nat} (hm : 1 ≤ m) : min C (s + min C x * m) = min C (s + x * m) := by
 by_cases h : x ≤ C
 ·rw [Nat.min_eq_right h]
 ·rw [Nat.min_eq_left (show C ≤ x by omega)]
  have h1 : C * 1 ≤ C * m := Nat.mul_le_mul_left _ hm
  have h2 : x * 1 ≤ x * m := Nat.mul_le_mul_left _ hm
  omega
theorem stepsD_eq : ∀ (f : Fr Ko) (s : Nat), f.once → s ≤ cap40 → f.stepsD s = min cap40 (s + f.stepsT)
 | .nil, s, _, h => by simp [Fr.stepsD, Fr.stepsT]; omega
 | .op _ r, s, u, h => by
  rw [Fr.stepsD, stepsD_eq r _ u (Nat.min_le_left _ _), Fr.stepsT]; omega
 | .loop o b _ r, s, u, h => by
  rw [Fr.stepsD, stepsD_eq r _ u.2.2 (Nat.min_le_left _ _), stepsD_eq b 1 u.2.1 (by decide), min_mul_cap u.1, Fr.stepsT, Nat.mul_comm (1 + b.stepsT)]; omega
theorem stepsR_eq : ∀ (f : Fr Ko) (n : Nat), f.once → n ≤ cap40 → f.stepsR n = min cap40 (n + f.stepsT)
 | .nil, n, _, h => by simp [Fr.stepsR, Fr.stepsT]; omega
 | .op _ r, n, u, h => by
  rw [Fr.stepsR, stepsR_eq r _ u (Nat.min_le_right _ _), Fr.stepsT]; omega
 | .loop o b _ r, n, u, h => by
  rw [Fr.stepsR, stepsR_eq r _ u.2.2 (Nat.min_le_right _ _), stepsR_eq b 0 u.2.1 (by decide), Fr.stepsT, Nat.zero_add]
  have e : min (n + o.imm.toNat * (1 + min cap40 b.stepsT)) cap40 = min cap40 (n + (1 + b.stepsT) * o.imm.toNat) := by
   by_cases hb : b.stepsT ≤ cap40
   ·rw [Nat.min_eq_right hb, Nat.mul_comm]; omega
   ·rw [Nat.min_eq_left (show cap40 ≤ b.stepsT by omega)]
    have h1 : 1 * (1 + cap40) ≤ o.imm.toNat * (1 + cap40) := Nat.mul_le_mul_right _ u.1
    have h2 : (1 + b.stepsT) * 1 ≤ (1 + b.stepsT) * o.imm.toNat := Nat.mul_le_mul_left _ u.1
    omega
  rw [e, Nat.mul_comm (1 + b.stepsT)]; omega
theorem ogo_all {vs : List Vr} : ∀ (l : List Ko) (m : List Bool) (d : Int) (r : List Bool × Int), ogo vs m d l = some r → ∀ o ∈ l, oneB vs o = true
 | [], _, _, _, _, o, ho => by cases ho
 | x :: l, m, d, r, h, o, ho => by
  unfold ogo at h
  split at h
  ·rename_i hc
   simp only [Bool.and_eq_true] at hc
   rcases List.mem_cons.1 ho with rfl | ho
   ·exact hc.1
   ·exact ogo_all l _ _ r h o ho
  ·cases h
theorem once_of {vs : List Vr} : ∀ (f : Fr Ko), f.wf kdK → (∀ o ∈ f.flat, oneB vs o = true) → f.once
 | .nil, _, _ => trivial
 | .op _ r, w, h => once_of r w.2 fun o ho => h o (List.mem_cons_of_mem _ ho)
 | .loop o b e r, w, h => by
  obtain ⟨w1, w2, w3, w4⟩ := w
  refine ⟨?_, once_of b w3 fun x hx => h x (by simp [Fr.flat, hx]), once_of r w4 fun x hx => h x (by simp [Fr.flat, hx])⟩
  have k15 := kd_1.1 w1
  have h1 := h o (by simp [Fr.flat])
  obtain ⟨_, hn, _⟩ := one_parts (s := 0) h1 (by simp [shapeN, k15])
  simp [numB, k15] at hn
  have := hn.1
  rw [UInt64.le_iff_toNat_le] at this
  exact this
end Go.Sv
namespace Go.Sv
def okV (vs : List Vr) (v : List Nat) : Prop := v.length = vs.length ∧ ∀ i, i < vs.length → v.getD i 0 < two64 (gv vs i).limbs
theorem getD_setN (v : List Nat) (i j x : Nat) (h : i < v.length) : (v.set i x).getD j 0 = if j = i then x else v.getD j 0 := by
 rw [List.getD_eq_getElem?_getD, List.getD_eq_getElem?_getD, List.getElem?_set]
 by_cases e : i = j
 ·subst e; simp [h]
 ·rw [if_neg e, if_neg (fun q => e q.symm)]
theorem okV_set {vs : List Vr} {v : List Nat} (h : okV vs v) {d : Int} (hd : 0 ≤ d ∧ d < vs.length) {x : Nat} (hx : x < two64 (limbsAt vs d)) : okV vs (v.set d.toNat x) := by
 refine ⟨by simp [h.1], fun i hi => ?_⟩
 rw [getD_setN _ _ _ _ (by rw [h.1]; omega)]
 split
 ·rename_i e; subst e; exact hx
 ·exact h.2 i hi
theorem two64_pos (n : Int) : 0 < two64 n := Nat.pow_pos (by decide)
theorem gN_at {v : List Nat} {i : Int} (h : 0 ≤ i) : gN v i = v.getD i.toNat 0 := by unfold gN; rw [if_neg (by omega)]
theorem swap_parts {vs : List Vr} {o : Ko} (h : oneB vs o = true) (hk : o.kind = 14) : (0 ≤ o.d ∧ o.d < vs.length) ∧ (0 ≤ o.e ∧ o.e < vs.length) ∧ (0 ≤ o.c ∧ o.c < vs.length) ∧ o.d ≠ o.e ∧ limbsAt vs o.d = limbsAt vs o.e := by
 obtain ⟨hp, _, ha⟩ := one_parts (s := 19) h (by simp [shapeN, hk])
 have hd := parts_d hp (by decide)
 have he : 0 ≤ o.e ∧ o.e < vs.length := by
  simp only [partsB, Bool.and_eq_true] at hp; exact partOk_has hp.2.1 (by decide)
 have hc := parts_c hp (by decide)
 refine ⟨hd, he, hc, ?_, ?_⟩
 ·unfold oneB at h
  rw [if_neg (by omega)] at h
  simp only [show shapeN o.kind = some 19 by simp [shapeN, hk], Bool.and_eq_true, Bool.or_eq_true, decide_eq_true_eq, Bool.not_eq_true', decide_eq_false_iff_not] at h
  rcases h.2.2.2.2.1 with h | h
  ·omega
  ·exact h
 ·simp [agreeB, alikeL, hk] at ha
  exact ha.symm
theorem d_in {vs : List Vr} {o : Ko} (h : oneB vs o = true) (h17 : o.kind ≠ 17) (h15 : o.kind ≠ 15) (h16 : o.kind ≠ 16) : 0 ≤ o.d ∧ o.d < vs.length := by
 unfold oneB at h
 rw [if_neg h17] at h
 split at h
 ·cases h
 ·rename_i s hs
  simp only [Bool.and_eq_true] at h
  have hk := shape_kinds hs
  refine parts_d h.2.1 ?_
  rcases hk with ⟨_, rfl⟩ | ⟨_, rfl⟩ | ⟨_, rfl⟩ | ⟨_, rfl⟩ | ⟨_, rfl⟩ | ⟨_, rfl⟩ | ⟨h, _⟩
  all_goals first | decide | omega
theorem step_ok {vs : List Vr} {o : Ko} {v : List Nat} (ho : oneB vs o = true) (h15 : o.kind ≠ 15) (h16 : o.kind ≠ 16) (h : okV vs v) : okV vs (stepV vs o v) := by
 unfold stepV
 split
 ·rename_i hk
  obtain ⟨hd, he, hc, hne, hl⟩ := swap_parts ho hk
  split
  ·refine okV_set (okV_set h hd ?_) he ?_
   ·rw [gN_at he.1, hl]; exact h.2 _ (by omega)
   ·rw [gN_at hd.1, ← hl]; exact h.2 _ (by omega)
  ·exact h
 ·split
  ·exact h
  ·rename_i h17
   exact okV_set h (d_in ho h17 h15 h16) (Nat.mod_lt _ (two64_pos _))
theorem iter_ok {P : List Nat → Prop} {f : List Nat → Option (List Nat)} (hf : ∀ v w, P v → f v = some w → P w) : ∀ (n : Nat) (v w : List Nat), P v → iterO f n v = some w → P w
 | 0, v, w, h, e => by cases e; exact h
 | n + 1, v, w, h, e => by
  unfold iterO at e
  split at e
  ·cases e
  ·rename_i x hx
   exact iter_ok hf n x w (hf v x h hx) e
theorem exec_ok {vs : List Vr} : ∀ (f : Fr Ko) (v w : List Nat), f.wf kdK → (∀ o ∈ f.flat, oneB vs o = true) → okV vs v → f.exec vs v = some w → okV vs w
 | .nil, v, w, _, _, h, e => by cases e; exact h
 | .op o r, v, w, hw, ha, h, e => by
  unfold Fr.exec at e
  split at e
  ·have k1 : o.kind ≠ 15 := fun h => by have := hw.1; simp [kdK, h] at this
   have k2 : o.kind ≠ 16 := fun h => by have := hw.1; simp [kdK, h] at this
   exact exec_ok r _ w hw.2 (fun x hx => ha x (List.mem_cons_of_mem _ hx)) (step_ok (ha o (List.mem_cons_self ..)) k1 k2 h) e
  ·cases e
 | .loop o b _ r, v, w, hw, ha, h, e => by
  unfold Fr.exec at e
  split at e
  ·cases e
  ·rename_i x hx
   have hb : ∀ v w, okV vs v → b.exec vs v = some w → okV vs w := fun v w hv he => exec_ok b v w hw.2.2.1 (fun y hy => ha y (by simp [Fr.flat, hy])) hv he
   exact exec_ok r x w hw.2.2.2 (fun y hy => ha y (by simp [Fr.flat, hy])) (iter_ok hb _ v x h hx) e
def Fr.app {α : Type} : Fr α → Fr α → Fr α
 | .nil, g => g
 | .op o r, g => .op o (r.app g)
 | .loop o b e r, g => .loop o b e (r.app g)
theorem flat_app {α : Type} : ∀ f g : Fr α, (f.app g).flat = f.flat ++ g.flat
 | .nil, _ => rfl
 | .op _ r, g => by simp [Fr.app, Fr.flat, flat_app r g]
 | .loop _ _ _ r, g => by simp [Fr.app, Fr.flat, flat_app r g]
theorem wf_app {α : Type} {kd : α → Nat} : ∀ f g : Fr α, f.wf kd → g.wf kd → (f.app g).wf kd
 | .nil, _, _, h => h
 | .op _ r, g, h, h' => ⟨h.1, wf_app r g h.2 h'⟩
 | .loop _ _ _ r, g, h, h' => ⟨h.1, h.2.1, h.2.2.1, wf_app r g h.2.2.2 h'⟩
theorem exec_app {vs : List Vr} : ∀ (f g : Fr Ko) (v : List Nat), (f.app g).exec vs v = match f.exec vs v with
  | none => none
  | some w => g.exec vs w
 | .nil, _, _ => rfl
 | .op o r, g, v => by
  simp only [Fr.app, Fr.exec]
  split
  ·exact exec_app r g _
  ·rfl
 | .loop o b _ r, g, v => by
  simp only [Fr.app, Fr.exec]
  cases iterO (fun w => b.exec vs w) o.imm.toNat v with
  | none => rfl
  | some w => exact exec_app r g w
theorem stepsT_app : ∀ f g : Fr Ko, (f.app g).stepsT = f.stepsT + g.stepsT
 | .nil, _ => by simp [Fr.app, Fr.stepsT]
 | .op _ r, g => by simp [Fr.app, Fr.stepsT, stepsT_app r g]; omega
 | .loop _ _ _ r, g => by simp [Fr.app, Fr.stepsT, stepsT_app r g]; omega
end Go.Sv
namespace Go.Sv
def Fr.reps {α : Type} (b : Fr α) : Nat → Fr α → Fr α
 | 0, r => r
 | n + 1, r => b.app (Fr.reps b n r)
def Fr.unroll : Nat → Fr Ko → Fr Ko
 | _, .nil => .nil
 | 0, .op o r => .op o r
 | j + 1, .op o r => .op o (r.unroll j)
 | 0, .loop o b _ r => Fr.reps b o.imm.toNat r
 | j + 1, .loop o b e r => if j < b.size then .loop o (b.unroll j) e r else .loop o b e (r.unroll (j - b.size - 1))
theorem exec_reps {vs : List Vr} {b r : Fr Ko} : ∀ (n : Nat) (v : List Nat), (Fr.reps b n r).exec vs v = match iterO (fun w => b.exec vs w) n v with
  | none => none
  | some w => r.exec vs w
 | 0, v => rfl
 | n + 1, v => by
  simp only [Fr.reps, iterO]
  rw [exec_app]
  cases b.exec vs v with
  | none => rfl
  | some w => exact exec_reps n w
theorem exec_unroll {vs : List Vr} : ∀ (f : Fr Ko) (j : Nat) (v : List Nat), (f.unroll j).exec vs v = f.exec vs v
 | .nil, _, _ => by simp [Fr.unroll]
 | .op o r, 0, v => rfl
 | .op o r, j + 1, v => by
  simp only [Fr.unroll, Fr.exec]
  split
  ·exact exec_unroll r j _
  ·rfl
 | .loop o b e r, 0, v => by
  simp only [Fr.unroll, Fr.exec]
  exact exec_reps _ _
 | .loop o b e r, j + 1, v => by
  simp only [Fr.unroll]
  split
  ·have : (fun w => (b.unroll j).exec vs w) = fun w => b.exec vs w := funext fun w => exec_unroll b j w
   simp only [Fr.exec, this]
  ·simp only [Fr.exec]
   cases iterO (fun w => b.exec vs w) o.imm.toNat v with
   | none => rfl
   | some w => exact exec_unroll r _ w
theorem stepsT_reps {b r : Fr Ko} : ∀ n : Nat, (Fr.reps b n r).stepsT = n * b.stepsT + r.stepsT
 | 0 => by simp [Fr.reps]
 | n + 1 => by rw [Fr.reps, stepsT_app, stepsT_reps n, Nat.add_mul]; omega
theorem stepsT_unroll : ∀ (f : Fr Ko) (j : Nat), f.wf kdK → f.once → (∃ o, f.flat[j]? = some o ∧ o.kind = 15) → (f.unroll j).stepsT < f.stepsT
 | .nil, j, _, _, ⟨o, h, _⟩ => by simp [Fr.flat] at h
 | .op o r, 0, w, _, ⟨o', h, k⟩ => by
  simp only [Fr.flat, List.getElem?_cons_zero, Option.some.injEq] at h
  subst h
  have := w.1; simp [kdK, k] at this
 | .op o r, j + 1, w, u, ⟨o', h, k⟩ => by
  have := stepsT_unroll r j w.2 u ⟨o', by simpa [Fr.flat] using h, k⟩
  simp [Fr.unroll, Fr.stepsT]; exact this
 | .loop o b e r, 0, w, u, _ => by
  have h1 := u.1
  simp only [Fr.unroll, Fr.stepsT]
  rw [stepsT_reps, Nat.mul_add]; omega
 | .loop o b e r, j + 1, w, u, ⟨o', h, k⟩ => by
  simp only [Fr.flat, List.getElem?_cons_succ] at h
  simp only [Fr.unroll]
  split
  ·rename_i hj
   rw [List.getElem?_append_left (by rw [Fr.flat_len]; exact hj)] at h
   have ih := stepsT_unroll b j w.2.2.1 u.2.1 ⟨o', h, k⟩
   simp only [Fr.stepsT]
   have : o.imm.toNat * (1 + (b.unroll j).stepsT) < o.imm.toNat * (1 + b.stepsT) := Nat.mul_lt_mul_of_pos_left (by omega) u.1
   omega
  ·rename_i hj
   rw [List.getElem?_append_right (by rw [Fr.flat_len]; omega), Fr.flat_len] at h
   by_cases hj2 : j = b.size
   ·subst hj2
    simp only [Nat.sub_self, List.getElem?_cons_zero, Option.some.injEq] at h
    subst h
    have := w.2.1; simp [kdK, k] at this
   ·obtain ⟨n, hn⟩ : ∃ n, j - b.size = n + 1 := ⟨j - b.size - 1, by omega⟩
    rw [hn, List.getElem?_cons_succ] at h
    have ih := stepsT_unroll r n w.2.2.2 u.2.2 ⟨o', h, k⟩
    rw [show j - b.size - 1 = n by omega]
    simp only [Fr.stepsT]; omega
theorem flat_reps {α : Type} {b r : Fr α} : ∀ n : Nat, (Fr.reps b n r).flat = (List.replicate n b.flat).flatten ++ r.flat
 | 0 => by simp [Fr.reps]
 | n + 1 => by rw [Fr.reps, flat_app, flat_reps n, List.replicate_succ]; simp
theorem flat_unroll : ∀ (f : Fr Ko) (i j : Nat), f.wf kdK → ∀ o, f.flat[j]? = some o → o.kind = 15 → ∃ e : Nat, (f.ends i)[j]? = some ((i + e : Nat) : Int) ∧ j < e ∧ e < f.size ∧
  (f.unroll j).flat = f.flat.take j ++ ((List.replicate o.imm.toNat ((f.flat.drop (j + 1)).take (e - (j + 1)))).flatten ++ f.flat.drop (e + 1))
 | .nil, i, j, _, o, h, _ => by simp [Fr.flat] at h
 | .op o' r, i, 0, w, o, h, k => by
  simp only [Fr.flat, List.getElem?_cons_zero, Option.some.injEq] at h
  subst h
  have := w.1; simp [kdK, k] at this
 | .op o' r, i, j + 1, w, o, h, k => by
  obtain ⟨e, h1, h2, h3, h4⟩ := flat_unroll r (i + 1) j w.2 o (by simpa [Fr.flat] using h) k
  refine ⟨e + 1, ?_, by omega, by simp [Fr.size]; omega, ?_⟩
  ·simp only [Fr.ends, List.getElem?_cons_succ]
   rw [h1]; congr 2; omega
  ·simp only [Fr.unroll, Fr.flat, List.take_succ_cons, List.drop_succ_cons, List.cons_append]
   rw [h4, show e + 1 - (j + 1 + 1) = e - (j + 1) by omega]
 | .loop o' b x r, i, 0, w, o, h, k => by
  simp only [Fr.flat, List.getElem?_cons_zero, Option.some.injEq] at h
  subst h
  refine ⟨b.size + 1, by simp [Fr.ends]; omega, by omega, by simp [Fr.size]; omega, ?_⟩
  simp only [Fr.unroll, flat_reps, Fr.flat, List.take_zero, List.nil_append, List.drop_succ_cons, List.drop_zero, Nat.zero_add, Nat.add_sub_cancel]
  have e1 : (b.flat ++ x :: r.flat).take b.size = b.flat := List.take_left' (Fr.flat_len b)
  have e2 : (b.flat ++ x :: r.flat).drop (b.size + 1) = r.flat := by
   rw [← List.drop_drop, List.drop_left' (Fr.flat_len b)]; rfl
  rw [e1, e2]
 | .loop o' b x r, i, j + 1, w, o, h, k => by
  simp only [Fr.flat, List.getElem?_cons_succ] at h
  simp only [Fr.unroll]
  split
  ·rename_i hj
   rw [List.getElem?_append_left (by rw [Fr.flat_len]; exact hj)] at h
   obtain ⟨e, h1, h2, h3, h4⟩ := flat_unroll b (i + 1) j w.2.2.1 o h k
   refine ⟨e + 1, ?_, by omega, by simp [Fr.size]; omega, ?_⟩
   ·simp only [Fr.ends, List.getElem?_cons_succ]
    rw [List.getElem?_append_left (by rw [Fr.ends_len]; exact hj), h1]; congr 2; omega
   ·simp only [Fr.flat, List.take_succ_cons, List.drop_succ_cons, List.cons_append]
    rw [h4, show e + 1 - (j + 1 + 1) = e - (j + 1) by omega]
    have l1 := Fr.flat_len b
    rw [List.take_append_of_le_length (by omega), List.drop_append_of_le_length (l₂ := x :: r.flat) (by omega), List.drop_append_of_le_length (l₂ := x :: r.flat) (by omega), List.take_append_of_le_length (by rw [List.length_drop]; omega)]
    simp
  ·rename_i hj
   rw [List.getElem?_append_right (by rw [Fr.flat_len]; omega), Fr.flat_len] at h
   by_cases hj2 : j = b.size
   ·subst hj2
    simp only [Nat.sub_self, List.getElem?_cons_zero, Option.some.injEq] at h
    subst h
    have := w.2.1; simp [kdK, k] at this
   ·obtain ⟨n, hn⟩ : ∃ n, j - b.size = n + 1 := ⟨j - b.size - 1, by omega⟩
    rw [hn, List.getElem?_cons_succ] at h
    obtain ⟨e, h1, h2, h3, h4⟩ := flat_unroll r (i + b.size + 2) n w.2.2.2 o h k
    refine ⟨b.size + 2 + e, ?_, by omega, by simp [Fr.size]; omega, ?_⟩
    ·simp only [Fr.ends, List.getElem?_cons_succ]
     rw [List.getElem?_append_right (by rw [Fr.ends_len]; omega), Fr.ends_len, hn, List.getElem?_cons_succ, h1]; congr 2; omega
    ·have l1 := Fr.flat_len b
     have hjn : j = b.size + (n + 1) := by omega
     subst hjn
     simp only [Fr.flat, List.take_succ_cons, List.drop_succ_cons, List.cons_append]
     rw [show b.size + (n + 1) - b.size - 1 = n by omega, h4]
     have t1 : (b.flat ++ x :: r.flat).take (b.size + (n + 1)) = b.flat ++ x :: r.flat.take n := by
      rw [List.take_append, l1, List.take_of_length_le (by omega), show b.size + (n + 1) - b.size = n + 1 by omega]; rfl
     have t2 : (b.flat ++ x :: r.flat).drop (b.size + (n + 1) + 1) = r.flat.drop (n + 1) := by
      rw [List.drop_append, l1, List.drop_of_length_le (by omega), show b.size + (n + 1) + 1 - b.size = (n + 1) + 1 by omega]; rfl
     have t3 : (b.flat ++ x :: r.flat).drop (b.size + 2 + e) = r.flat.drop (e + 1) := by
      rw [List.drop_append, l1, List.drop_of_length_le (by omega), show b.size + 2 + e - b.size = (e + 1) + 1 by omega]; rfl
     rw [t1, t2, t3, show b.size + 2 + e - (b.size + (n + 1) + 1 + 1) = e - (n + 1) by omega]
     simp
end Go.Sv
namespace Go.Sv
def mkO : List Bool → List Ko → Option (List Bool)
 | m, [] => some m
 | m, o :: l => if takenB m o = true then mkO (stepM m o) l else none
def Fr.deep : Fr Ko → Nat
 | .nil => 0
 | .op _ r => r.deep
 | .loop _ b _ r => max (1 + b.deep) r.deep
theorem mkO_app : ∀ (a b : List Ko) (m : List Bool), mkO m (a ++ b) = match mkO m a with
  | none => none
  | some m1 => mkO m1 b
 | [], _, _ => rfl
 | o :: a, b, m => by
  simp only [List.cons_append, mkO]
  split
  ·exact mkO_app a b _
  ·rfl
theorem ogo_deep {vs : List Vr} : ∀ (f : Fr Ko) (m : List Bool) (d : Int) (rest : List Ko) (r : List Bool × Int), f.wf kdK → 0 ≤ d → d ≤ 4 → ogo vs m d (f.flat ++ rest) = some r → d + f.deep ≤ 4 ∧ ∃ m', mkO m f.flat = some m' ∧ ogo vs m' d rest = some r
 | .nil, m, d, rest, r, _, _, h4, h => ⟨by simp [Fr.deep]; omega, m, rfl, h⟩
 | .op o f, m, d, rest, r, w, h0, h4, h => by
  have k1 : o.kind ≠ 15 := fun h => by have := w.1; simp [kdK, h] at this
  have k2 : o.kind ≠ 16 := fun h => by have := w.1; simp [kdK, h] at this
  simp only [Fr.flat, List.cons_append] at h
  unfold ogo at h
  split at h
  ·rename_i hc
   simp only [Bool.and_eq_true] at hc
   rw [dl, if_neg k1, if_neg k2, Int.add_zero] at h
   obtain ⟨q1, m', q2, q3⟩ := ogo_deep f _ d rest r w.2 h0 h4 h
   exact ⟨q1, m', by simp only [Fr.flat, mkO, hc.2.1, if_true]; exact q2, q3⟩
  ·cases h
 | .loop o b e f, m, d, rest, r, w, h0, h4, h => by
  obtain ⟨w1, w2, w3, w4⟩ := w
  have k15 := kd_1.1 w1
  have k16 := kd_2.1 w2
  simp only [Fr.flat, List.cons_append, List.append_assoc] at h
  unfold ogo at h
  split at h
  ·rename_i hc
   simp only [Bool.and_eq_true, decide_eq_true_eq] at hc
   rw [dl, if_pos k15] at h
   have hd := hc.2.2.2
   rw [dl, if_pos k15] at hd
   obtain ⟨q1, m1, q2, q3⟩ := ogo_deep b _ (d + 1) _ r w3 (by omega) hd h
   unfold ogo at q3
   split at q3
   ·rename_i hc2
    simp only [Bool.and_eq_true, decide_eq_true_eq] at hc2
    rw [dl, if_neg (by omega), if_pos k16, show d + 1 + -1 = d by omega] at q3
    obtain ⟨p1, m2, p2, p3⟩ := ogo_deep f _ d rest r w4 h0 h4 q3
    refine ⟨by simp only [Fr.deep]; omega, m2, ?_, p3⟩
    simp only [Fr.flat, mkO, hc.2.1, if_true]
    rw [mkO_app, q2]
    simp only [mkO, hc2.2.1, if_true]
    exact p2
   ·cases q3
  ·cases h
theorem ogo_tree {vs : List Vr} : ∀ (f : Fr Ko) (m m' : List Bool) (d : Int) (rest : List Ko), f.wf kdK → (∀ o ∈ f.flat, oneB vs o = true) → 0 ≤ d → d + f.deep ≤ 4 → mkO m f.flat = some m' → ogo vs m d (f.flat ++ rest) = ogo vs m' d rest
 | .nil, m, m', d, rest, _, _, _, _, h => by cases h; rfl
 | .op o f, m, m', d, rest, w, ha, h0, h4, h => by
  have k1 : o.kind ≠ 15 := fun h => by have := w.1; simp [kdK, h] at this
  have k2 : o.kind ≠ 16 := fun h => by have := w.1; simp [kdK, h] at this
  have d0 : dl o.kind = 0 := by rw [dl, if_neg k1, if_neg k2]
  simp only [Fr.flat, mkO] at h
  simp only [Fr.deep] at h4
  split at h
  ·rename_i ht
   simp only [Fr.flat, List.cons_append]
   rw [ogo, if_pos (by simp [ha o (List.mem_cons_self ..), ht, d0]; omega), d0, Int.add_zero]
   exact ogo_tree f _ m' d rest w.2 (fun x hx => ha x (List.mem_cons_of_mem _ hx)) h0 h4 h
  ·cases h
 | .loop o b e f, m, m', d, rest, w, ha, h0, h4, h => by
  obtain ⟨w1, w2, w3, w4⟩ := w
  have k15 := kd_1.1 w1
  have k16 := kd_2.1 w2
  have d1 : dl o.kind = 1 := by rw [dl, if_pos k15]
  have d2 : dl e.kind = -1 := by rw [dl, if_neg (by omega), if_pos k16]
  simp only [Fr.flat, mkO] at h
  simp only [Fr.deep] at h4
  split at h
  ·rename_i ht
   rw [mkO_app] at h
   split at h
   ·cases h
   ·rename_i m1 hm1
    simp only [mkO] at h
    split at h
    ·rename_i ht2
     simp only [Fr.flat, List.cons_append, List.append_assoc]
     rw [ogo, if_pos (by simp [ha o (by simp [Fr.flat]), ht, d1]; omega), d1]
     rw [ogo_tree b _ m1 (d + 1) _ w3 (fun x hx => ha x (by simp [Fr.flat, hx])) (by omega) (by omega) hm1]
     rw [ogo, if_pos (by simp [ha e (by simp [Fr.flat]), ht2, d2]; omega), d2, show d + 1 + -1 = d by omega]
     exact ogo_tree f _ m' d rest w4 (fun x hx => ha x (by simp [Fr.flat, hx])) h0 (by omega) h
    ·cases h
  ·cases h
def hitB (n : Nat) (o : Ko) (i : Nat) : Bool := decide (0 ≤ o.d) && (decide (o.d.toNat = i) && decide (i < n))
theorem gb_step (m : List Bool) (o : Ko) (i : Nat) : (stepM m o).length = m.length ∧ gb (stepM m o) i = (gb m i || hitB m.length o i) := by
 unfold stepM
 split
 ·rename_i h
  refine ⟨by simp, ?_⟩
  by_cases hl : o.d.toNat < m.length
  ·rw [gb_set _ _ _ hl]
   by_cases e : i = o.d.toNat
   ·subst e; simp [hitB, h, hl]
   ·rw [if_neg e]; simp [hitB, Ne.symm e]
  ·rw [List.set_eq_of_length_le (by omega)]
   by_cases e : o.d.toNat = i
   ·subst e; simp [hitB, hl]
   ·simp [hitB, e]
 ·rename_i h
  exact ⟨rfl, by simp [hitB, h]⟩
theorem mkO_gb : ∀ (l : List Ko) (m m1 : List Bool), mkO m l = some m1 → m1.length = m.length ∧ ∀ i, gb m1 i = (gb m i || l.any fun o => hitB m.length o i)
 | [], m, m1, h => by cases h; simp
 | o :: l, m, m1, h => by
  unfold mkO at h
  split at h
  ·obtain ⟨q1, q2⟩ := mkO_gb l _ m1 h
   have s := fun i => gb_step m o i
   refine ⟨by rw [q1, (s 0).1], fun i => ?_⟩
   rw [q2 i, (s i).2, (s 0).1, List.any_cons, Bool.or_assoc]
  ·cases h
theorem mkO_mono : ∀ (l : List Ko) (m n m1 : List Bool), m.length = n.length → (∀ i, gb m i = true → gb n i = true) → mkO m l = some m1 → ∃ n1, mkO n l = some n1
 | [], m, n, m1, _, _, _ => ⟨n, rfl⟩
 | o :: l, m, n, m1, hl, hle, h => by
  unfold mkO at h ⊢
  split at h
  ·rename_i ht
   have ht2 : takenB n o = true := by
    unfold takenB at ht ⊢
    rw [List.all_eq_true] at ht ⊢
    exact fun v hv => hle _ (ht v hv)
   rw [if_pos ht2]
   refine mkO_mono l _ _ m1 (by rw [(gb_step m o 0).1, (gb_step n o 0).1, hl]) (fun i hi => ?_) h
   rw [(gb_step m o i).2] at hi
   rw [(gb_step n o i).2, ← hl]
   cases hb : gb m i with
   | true => rw [hle i hb]; rfl
   | false => rw [hb, Bool.false_or] at hi; rw [hi, Bool.or_true]
  ·cases h
theorem gb_eq {a b : List Bool} (h : a.length = b.length) (he : ∀ j, gb a j = gb b j) : a = b := by
 apply List.ext_getElem h
 intro j h1 h2
 have := he j
 simpa [gb, List.getD_eq_getElem?_getD, h1, h2] using this
theorem mkO_again {l : List Ko} {m m1 : List Bool} (h : mkO m l = some m1) : mkO m1 l = some m1 := by
 obtain ⟨q1, q2⟩ := mkO_gb l m m1 h
 obtain ⟨n1, hn⟩ := mkO_mono l m m1 m1 q1.symm (fun i hi => by rw [q2 i, hi]; rfl) h
 obtain ⟨r1, r2⟩ := mkO_gb l m1 n1 hn
 rw [hn]
 congr 1
 refine gb_eq r1 fun j => ?_
 rw [r2 j, q1, q2 j, Bool.or_assoc, Bool.or_self]
theorem mkO_reps {l : List Ko} {m m1 : List Bool} (h : mkO m l = some m1) : ∀ n : Nat, 1 ≤ n → mkO m (List.replicate n l).flatten = some m1
 | 0, h0 => by omega
 | 1, _ => by simpa using h
 | n + 2, _ => by
  rw [List.replicate_succ, List.flatten_cons, mkO_app, h]
  have : ∀ k : Nat, mkO m1 (List.replicate k l).flatten = some m1 := by
   intro k
   induction k with
   | zero => rfl
   | succ k ih => rw [List.replicate_succ, List.flatten_cons, mkO_app, mkO_again h]; exact ih
  exact this (n + 1)
end Go.Sv
namespace Go.Sv
theorem wf_reps {b r : Fr Ko} (hb : b.wf kdK) (hr : r.wf kdK) : ∀ n : Nat, (Fr.reps b n r).wf kdK
 | 0 => hr
 | n + 1 => wf_app _ _ hb (wf_reps hb hr n)
theorem wf_unroll : ∀ (f : Fr Ko) (j : Nat), f.wf kdK → (f.unroll j).wf kdK
 | .nil, _, _ => by simp [Fr.unroll, Fr.wf]
 | .op _ _, 0, w => w
 | .op _ r, j + 1, w => ⟨w.1, wf_unroll r j w.2⟩
 | .loop _ _ _ _, 0, w => wf_reps w.2.2.1 w.2.2.2 _
 | .loop _ b _ r, j + 1, w => by
  simp only [Fr.unroll]
  split
  ·exact ⟨w.1, w.2.1, wf_unroll b j w.2.2.1, w.2.2.2⟩
  ·exact ⟨w.1, w.2.1, w.2.2.1, wf_unroll r _ w.2.2.2⟩
theorem deep_app : ∀ f g : Fr Ko, (f.app g).deep = max f.deep g.deep
 | .nil, g => by simp [Fr.app, Fr.deep]
 | .op _ r, g => by simp [Fr.app, Fr.deep, deep_app r g]
 | .loop _ _ _ r, g => by simp only [Fr.app, Fr.deep, deep_app r g]; omega
theorem deep_reps {b r : Fr Ko} : ∀ n : Nat, (Fr.reps b n r).deep ≤ max b.deep r.deep
 | 0 => by simp only [Fr.reps]; omega
 | n + 1 => by have := deep_reps (b := b) (r := r) n; simp only [Fr.reps, deep_app]; omega
theorem deep_unroll : ∀ (f : Fr Ko) (j : Nat), (f.unroll j).deep ≤ f.deep
 | .nil, _ => by simp [Fr.unroll]
 | .op _ _, 0 => Nat.le_refl _
 | .op _ r, j + 1 => by simpa [Fr.unroll, Fr.deep] using deep_unroll r j
 | .loop o b _ r, 0 => by have := deep_reps (b := b) (r := r) o.imm.toNat; simp only [Fr.unroll, Fr.deep]; omega
 | .loop _ b _ r, j + 1 => by
  simp only [Fr.unroll]
  split
  ·have := deep_unroll b j; simp only [Fr.deep]; omega
  ·have := deep_unroll r (j - b.size - 1); simp only [Fr.deep]; omega
theorem loop_op {vs : List Vr} {o : Ko} (h : oneB vs o = true) (hk : o.kind = 15 ∨ o.kind = 16) (m : List Bool) : takenB m o = true ∧ stepM m o = m := by
 obtain ⟨hp, _⟩ := one_parts (s := 0) h (by rcases hk with hk | hk <;> simp [shapeN, hk])
 simp only [partsB, Bool.and_eq_true] at hp
 obtain ⟨hd, he, ha, hb, hc⟩ := hp
 have d := partOk_no hd (by decide)
 have a := partOk_no ha (by decide)
 have b := partOk_no hb (by decide)
 have c := partOk_no hc (by decide)
 have h14 : o.kind ≠ 14 := by omega
 exact ⟨by simp [takenB, takesL, a, b, c, h14], by simp [stepM, d]⟩
theorem mkO_unroll {vs : List Vr} : ∀ (f : Fr Ko) (j : Nat) (m m' : List Bool), f.wf kdK → f.once → (∀ o ∈ f.flat, oneB vs o = true) → mkO m f.flat = some m' → mkO m (f.unroll j).flat = some m'
 | .nil, _, _, _, _, _, _, h => by simpa [Fr.unroll] using h
 | .op _ _, 0, _, _, _, _, _, h => h
 | .op o r, j + 1, m, m', w, u, ha, h => by
  simp only [Fr.unroll, Fr.flat, mkO] at h ⊢
  split at h
  ·rename_i ht
   rw [if_pos ht]
   exact mkO_unroll r j _ m' w.2 u (fun x hx => ha x (by simp [Fr.flat, hx])) h
  ·cases h
 | .loop o b e r, 0, m, m', w, u, ha, h => by
  obtain ⟨l1, l2⟩ := loop_op (ha o (by simp [Fr.flat])) (.inl (kd_1.1 w.1)) m
  simp only [Fr.flat, mkO, l1, l2, if_true] at h
  rw [mkO_app] at h
  split at h
  ·cases h
  ·rename_i m1 hm1
   obtain ⟨k1, k2⟩ := loop_op (ha e (by simp [Fr.flat])) (.inr (kd_2.1 w.2.1)) m1
   simp only [mkO, k1, k2, if_true] at h
   simp only [Fr.unroll]
   rw [flat_reps, mkO_app, mkO_reps hm1 _ (by have := u.1; omega)]
   exact h
 | .loop o b e r, j + 1, m, m', w, u, ha, h => by
  obtain ⟨l1, l2⟩ := loop_op (ha o (by simp [Fr.flat])) (.inl (kd_1.1 w.1)) m
  simp only [Fr.flat, mkO, l1, l2, if_true] at h
  rw [mkO_app] at h
  split at h
  ·cases h
  ·rename_i m1 hm1
   simp only [Fr.unroll]
   split
   ·simp only [Fr.flat, mkO, l1, l2, if_true]
    rw [mkO_app, mkO_unroll b j m m1 w.2.2.1 u.2.1 (fun x hx => ha x (by simp [Fr.flat, hx])) hm1]
    exact h
   ·obtain ⟨k1, k2⟩ := loop_op (ha e (by simp [Fr.flat])) (.inr (kd_2.1 w.2.1)) m1
    simp only [mkO, k1, k2, if_true] at h
    simp only [Fr.flat, mkO, l1, l2, if_true]
    rw [mkO_app, hm1]
    simp only [mkO, k1, k2, if_true]
    exact mkO_unroll r _ m1 m' w.2.2.2 u.2.2 (fun x hx => ha x (by simp [Fr.flat, hx])) h
theorem mem_reps {b r : Fr Ko} {x : Ko} (n : Nat) (h : x ∈ (Fr.reps b n r).flat) : x ∈ b.flat ∨ x ∈ r.flat := by
 rw [flat_reps, List.mem_append, List.mem_flatten] at h
 rcases h with ⟨l, hl, hx⟩ | h
 ·exact .inl ((List.eq_of_mem_replicate hl) ▸ hx)
 ·exact .inr h
theorem mem_unroll : ∀ (f : Fr Ko) (j : Nat) (x : Ko), x ∈ (f.unroll j).flat → x ∈ f.flat
 | .nil, _, x, h => by simp [Fr.unroll, Fr.flat] at h
 | .op _ _, 0, x, h => h
 | .op o r, j + 1, x, h => by
  simp only [Fr.unroll, Fr.flat, List.mem_cons] at h ⊢
  rcases h with h | h
  ·exact .inl h
  ·exact .inr (mem_unroll r j x h)
 | .loop o b e r, 0, x, h => by
  simp only [Fr.unroll] at h
  simp only [Fr.flat, List.mem_cons, List.mem_append]
  rcases mem_reps _ h with h | h
  ·exact .inr (.inl h)
  ·exact .inr (.inr (.inr h))
 | .loop o b e r, j + 1, x, h => by
  simp only [Fr.unroll] at h
  split at h
  ·simp only [Fr.flat, List.mem_cons, List.mem_append] at h ⊢
   rcases h with h | h | h | h
   ·exact .inl h
   ·exact .inr (.inl (mem_unroll b j x h))
   ·exact .inr (.inr (.inl h))
   ·exact .inr (.inr (.inr h))
  ·simp only [Fr.flat, List.mem_cons, List.mem_append] at h ⊢
   rcases h with h | h | h | h
   ·exact .inl h
   ·exact .inr (.inl h)
   ·exact .inr (.inr (.inl h))
   ·exact .inr (.inr (.inr (mem_unroll r _ x h)))
theorem chk_tree {vs : List Vr} {os rs : List Ko} (h : chkB vs os rs = true) : ∃ f : Fr Ko, f.wf kdK ∧ os = f.flat ∧ f.once ∧ (∀ o ∈ f.flat, oneB vs o = true) ∧ f.deep ≤ 4 ∧ ∃ m', mkO (startM vs) f.flat = some m' ∧ madeAll vs m' = true := by
 unfold chkB at h
 simp only [Bool.and_eq_true, decide_eq_true_eq] at h
 obtain ⟨h1, h2, h3, h4, h5⟩ := h
 split at h5
 ·cases h5
 ·rename_i m dp hg
  simp only [Bool.and_eq_true, decide_eq_true_eq] at h5
  obtain ⟨h5, rfl⟩ := h5
  obtain ⟨f, w, hf⟩ := tree_of (ogo_bal os _ m 0 (by simpa using hg))
  subst hf
  have ha := ogo_all _ _ _ _ hg
  obtain ⟨q1, m', q2, q3⟩ := ogo_deep f (startM vs) 0 [] (m, 0) w (by omega) (by omega) (by simpa using hg)
  have hm : m' = m := by
   unfold ogo at q3
   simpa using q3
  subst hm
  exact ⟨f, w, rfl, once_of f w ha, ha, by omega, m', q2, h5⟩
theorem chk_unroll {vs : List Vr} {f : Fr Ko} {rs : List Ko} (w : f.wf kdK) (h : chkB vs f.flat rs = true) (j : Nat) (hl : (f.unroll j).flat.length ≤ 4096) : chkB vs (f.unroll j).flat rs = true := by
 have h0 := h
 unfold chkB at h ⊢
 simp only [Bool.and_eq_true, decide_eq_true_eq] at h ⊢
 obtain ⟨h1, h2, h3, h4, h5⟩ := h
 refine ⟨h1, hl, h3, h4, ?_⟩
 split at h5
 ·cases h5
 ·rename_i m dp hg
  simp only [Bool.and_eq_true, decide_eq_true_eq] at h5
  obtain ⟨h5, rfl⟩ := h5
  have ha := ogo_all _ _ _ _ hg
  obtain ⟨q1, m', q2, q3⟩ := ogo_deep f (startM vs) 0 [] (m, 0) w (by omega) (by omega) (by simpa using hg)
  have hm : m' = m := by
   unfold ogo at q3
   simpa using q3
  subst hm
  have hd := deep_unroll f j
  have := ogo_tree (f.unroll j) (startM vs) m' 0 [] (wf_unroll f j w) (fun x hx => ha x (mem_unroll f j x hx)) (by omega) (by omega) (mkO_unroll f j _ _ w (once_of f w ha) ha q2)
  rw [List.append_nil] at this
  rw [this]
  unfold ogo
  simp [h5]
end Go.Sv
namespace Go.Sv
def unK (o : Ko) : Ko := if o.kind = 6 then { o with kind := 5 } else o
def Fr.map {α : Type} (g : α → α) : Fr α → Fr α
 | .nil => .nil
 | .op o r => .op (g o) (r.map g)
 | .loop o b e r => .loop (g o) (b.map g) (g e) (r.map g)
theorem flat_map {α : Type} (g : α → α) : ∀ f : Fr α, (f.map g).flat = f.flat.map g
 | .nil => rfl
 | .op _ r => by simp [Fr.map, Fr.flat, flat_map g r]
 | .loop _ b _ r => by simp [Fr.map, Fr.flat, flat_map g r, flat_map g b]
theorem unK_kd (o : Ko) : kdK (unK o) = kdK o := by
 unfold unK
 split
 ·rename_i h; simp [kdK, h]
 ·rfl
theorem wf_map : ∀ f : Fr Ko, f.wf kdK → (f.map unK).wf kdK
 | .nil, _ => trivial
 | .op _ r, w => ⟨by rw [unK_kd]; exact w.1, wf_map r w.2⟩
 | .loop _ b _ r, w => ⟨by rw [unK_kd]; exact w.1, by rw [unK_kd]; exact w.2.1, wf_map b w.2.2.1, wf_map r w.2.2.2⟩
theorem unK_imm (o : Ko) : (unK o).imm = o.imm := by unfold unK; split <;> rfl
theorem unK_step (vs : List Vr) (o : Ko) (v : List Nat) : stepV vs (unK o) v = stepV vs o v := by
 unfold unK
 split
 ·rename_i h; simp [stepV, opV, rawV, h]
 ·rfl
theorem unK_met (o : Ko) (v : List Nat) : metB (unK o) v = metB o v := by
 unfold unK
 split
 ·rename_i h; simp [metB, needsL, h]
 ·rfl
theorem exec_map {vs : List Vr} : ∀ (f : Fr Ko) (v : List Nat), (f.map unK).exec vs v = f.exec vs v
 | .nil, _ => rfl
 | .op o r, v => by
  simp only [Fr.map, Fr.exec, unK_met, unK_step]
  split
  ·exact exec_map r _
  ·rfl
 | .loop o b e r, v => by
  have hb : (fun w => (b.map unK).exec vs w) = fun w => b.exec vs w := funext fun w => exec_map b w
  simp only [Fr.map, Fr.exec, unK_imm, hb]
  cases iterO (fun w => b.exec vs w) o.imm.toNat v with
  | none => rfl
  | some w => exact exec_map r w
theorem stepsT_map : ∀ f : Fr Ko, (f.map unK).stepsT = f.stepsT
 | .nil => rfl
 | .op _ r => by simp [Fr.map, Fr.stepsT, stepsT_map r]
 | .loop _ b _ r => by simp [Fr.map, Fr.stepsT, stepsT_map r, stepsT_map b, unK_imm]
theorem unK_takes (o : Ko) : takesL (unK o) = takesL o := by
 unfold unK
 split
 ·rename_i h; simp [takesL, h]
 ·rfl
theorem unK_one {vs : List Vr} {o : Ko} (h : oneB vs o = true) : oneB vs (unK o) = true := by
 unfold unK
 split
 ·rename_i k
  simp only [oneB, k, shapeN, partsB, numB, secB, takesL, agreeB, alikeL] at h ⊢
  simp only [show (6 : Int) ≠ 17 by decide, show (5 : Int) ≠ 17 by decide, if_false] at h ⊢
  simp at h ⊢
  simp_all
 ·exact h
theorem ogo_map {vs : List Vr} : ∀ (l : List Ko) (m : List Bool) (d : Int) (r : List Bool × Int), ogo vs m d l = some r → ogo vs m d (l.map unK) = some r
 | [], _, _, _, h => h
 | o :: l, m, d, r, h => by
  simp only [List.map_cons]
  have e1 : takenB m (unK o) = takenB m o := by simp [takenB, unK_takes]
  have e2 : dl (unK o).kind = dl o.kind := by
   unfold unK
   split
   ·rename_i k; simp [dl, k]
   ·rfl
  have e3 : stepM m (unK o) = stepM m o := by
   unfold unK
   split <;> rfl
  unfold ogo at h ⊢
  split at h
  ·rename_i hc
   simp only [Bool.and_eq_true] at hc
   rw [e1, e2, e3, if_pos (by simp only [Bool.and_eq_true]; exact ⟨unK_one hc.1, hc.2⟩)]
   exact ogo_map l _ _ r h
  ·cases h
theorem chk_map {vs : List Vr} {os rs : List Ko} (h : chkB vs os rs = true) : chkB vs (os.map unK) rs = true := by
 unfold chkB at h ⊢
 simp only [Bool.and_eq_true, decide_eq_true_eq] at h ⊢
 obtain ⟨h1, h2, h3, h4, h5⟩ := h
 refine ⟨h1, by simpa using h2, h3, h4, ?_⟩
 split at h5
 ·cases h5
 ·rename_i m dp hg
  rw [ogo_map _ _ _ _ hg]
  simpa using h5
end Go.Sv
namespace Go.Sv
theorem flat_inj {α : Type} {kd : α → Nat} : ∀ (f g : Fr α) (r1 r2 : List α), f.wf kd → g.wf kd → (∀ x t, r1 = x :: t → kd x = 2) → (∀ x t, r2 = x :: t → kd x = 2) → f.flat ++ r1 = g.flat ++ r2 → f = g ∧ r1 = r2
 | .nil, .nil, r1, r2, _, _, _, _, h => ⟨rfl, h⟩
 | .nil, .op o g, r1, r2, _, w, h1, _, h => by
  have := h1 o _ (by simpa [Fr.flat] using h)
  have := w.1; omega
 | .nil, .loop o b e g, r1, r2, _, w, h1, _, h => by
  have := h1 o _ (by simpa [Fr.flat] using h)
  have := w.1; omega
 | .op o f, .nil, r1, r2, w, _, _, h2, h => by
  have := h2 o _ (by simpa [Fr.flat] using h.symm)
  have := w.1; omega
 | .loop o b e f, .nil, r1, r2, w, _, _, h2, h => by
  have := h2 o _ (by simpa [Fr.flat] using h.symm)
  have := w.1; omega
 | .op o f, .op o' g, r1, r2, w, w', h1, h2, h => by
  simp only [Fr.flat, List.cons_append, List.cons.injEq] at h
  obtain ⟨rfl, h⟩ := h
  obtain ⟨rfl, rfl⟩ := flat_inj f g r1 r2 w.2 w'.2 h1 h2 h
  exact ⟨rfl, rfl⟩
 | .op o f, .loop o' b e g, r1, r2, w, w', _, _, h => by
  simp only [Fr.flat, List.cons_append, List.cons.injEq] at h
  have a1 := w.1
  have a2 := w'.1
  rw [h.1] at a1; omega
 | .loop o b e f, .op o' g, r1, r2, w, w', _, _, h => by
  simp only [Fr.flat, List.cons_append, List.cons.injEq] at h
  have a1 := w.1
  have a2 := w'.1
  rw [h.1] at a1; omega
 | .loop o b e f, .loop o' b' e' g, r1, r2, w, w', h1, h2, h => by
  simp only [Fr.flat, List.cons_append, List.cons.injEq, List.append_assoc] at h
  obtain ⟨rfl, h⟩ := h
  obtain ⟨rfl, h5⟩ := flat_inj b b' _ _ w.2.2.1 w'.2.2.1 (fun x t q => by injection q with q _; exact q ▸ w.2.1) (fun x t q => by injection q with q _; exact q ▸ w'.2.1) h
  injection h5 with h3 h4
  subst h3
  obtain ⟨rfl, rfl⟩ := flat_inj f g r1 r2 w.2.2.2 w'.2.2.2 h1 h2 h4
  exact ⟨rfl, rfl⟩
open Classical in
noncomputable def frOf (os : List Ko) : Fr Ko := if h : ∃ f : Fr Ko, f.wf kdK ∧ os = f.flat then h.choose else .nil
theorem frOf_flat {f : Fr Ko} (w : f.wf kdK) : frOf f.flat = f := by
 have h : ∃ g : Fr Ko, g.wf kdK ∧ f.flat = g.flat := ⟨f, w, rfl⟩
 unfold frOf
 rw [dif_pos h]
 have hs := h.choose_spec
 exact (flat_inj _ f [] [] hs.1 w (by simp) (by simp) (by simpa using hs.2.symm)).1
def inV (vs : List Vr) : List Nat := (List.range vs.length).filter fun i => givenB (gv vs i)
def outV (vs : List Vr) : List Nat := (List.range vs.length).filter fun i => decide ((gv vs i).mode = 3)
def fitsD (vs : List Vr) (ns : List Nat) : Bool := ((inV vs).zip ns).all fun p => decide (p.2 < two64 (gv vs p.1).limbs)
def fitD (vs : List Vr) (os rs : List Ko) (ns : List Nat) : Int := if chkB vs os rs = true then (if (inV vs).length = ns.length then (if fitsD vs ns = true then 0 else 3) else 2) else 2
def startW (vs : List Vr) (ns : List Nat) : List Nat := ((inV vs).zip ns).foldl (fun v p => v.set p.1 p.2) (List.replicate vs.length 0)
def metD (vs : List Vr) (os rs : List Ko) (ns : List Nat) : Bool := decide (fitD vs os rs ns = 0) && rs.all fun o => metB o (startW vs ns)
noncomputable def stepsN20 (vs : List Vr) (os rs : List Ko) : Nat := if chkB vs os rs = true then min cap40 (frOf os).stepsT else 0
noncomputable def runD (vs : List Vr) (os rs : List Ko) (ns : List Nat) : List (List UInt64) × Int :=
 if fitD vs os rs ns = 0 then (if metD vs os rs ns = true then (if stepsN20 vs os rs ≤ 16384 then (match (frOf os).exec vs (startW vs ns) with
  | none => ([], 9)
  | some w => ((outV vs).map fun i => toL (w.getD i 0), 0)) else ([], 10)) else ([], 9)) else ([], fitD vs os rs ns)
theorem inV_lt {vs : List Vr} {i : Nat} (h : i ∈ inV vs) : i < vs.length := by
 have := (List.mem_filter.1 h).1; simpa using this
theorem outV_lt {vs : List Vr} {i : Nat} (h : i ∈ outV vs) : i < vs.length := by
 have := (List.mem_filter.1 h).1; simpa using this
theorem okV_fold {vs : List Vr} : ∀ (l : List (Nat × Nat)) (v : List Nat), (∀ p ∈ l, p.1 < vs.length ∧ p.2 < two64 (gv vs p.1).limbs) → okV vs v → okV vs (l.foldl (fun v p => v.set p.1 p.2) v)
 | [], v, _, h => h
 | p :: l, v, hl, h => by
  obtain ⟨h1, h2⟩ := hl p (List.mem_cons_self ..)
  refine okV_fold l _ (fun q hq => hl q (List.mem_cons_of_mem _ hq)) ?_
  have := okV_set h (d := (p.1 : Int)) (by omega) (x := p.2) (by simpa [limbsAt] using h2)
  simpa using this
theorem okV_start {vs : List Vr} {ns : List Nat} (h : fitsD vs ns = true) : okV vs (startW vs ns) := by
 refine okV_fold _ _ (fun p hp => ?_) ⟨by simp, fun i hi => ?_⟩
 ·unfold fitsD at h
  rw [List.all_eq_true] at h
  have := h p hp
  exact ⟨inV_lt (List.of_mem_zip hp).1, by simpa using this⟩
 ·rw [List.getD_eq_getElem?_getD]
  simp [hi, two64_pos]
theorem fitD_parts {vs : List Vr} {os rs : List Ko} {ns : List Nat} (h : fitD vs os rs ns = 0) : chkB vs os rs = true ∧ (inV vs).length = ns.length ∧ fitsD vs ns = true := by
 unfold fitD at h
 by_cases h1 : chkB vs os rs = true
 ·by_cases h2 : (inV vs).length = ns.length
  ·by_cases h3 : fitsD vs ns = true
   ·exact ⟨h1, h2, h3⟩
   ·rw [if_pos h1, if_pos h2, if_neg h3] at h; omega
  ·rw [if_pos h1, if_neg h2] at h; omega
 ·rw [if_neg h1] at h; omega
theorem run_bounds {vs : List Vr} {os rs : List Ko} {ns : List Nat} : ((runD vs os rs ns).2 ≠ 0 → (runD vs os rs ns).1 = []) ∧ ((runD vs os rs ns).2 = 0 → (runD vs os rs ns).1.length = (outV vs).length ∧ (∀ i (h1 : i < (runD vs os rs ns).1.length) (h2 : i < (outV vs).length), (((runD vs os rs ns).1[i]).length : Int) ≤ (gv vs (outV vs)[i]).limbs) ∧ metD vs os rs ns = true ∧ fitD vs os rs ns = 0) := by
 by_cases h1 : fitD vs os rs ns = 0
 ·by_cases h2 : metD vs os rs ns = true
  ·by_cases h3 : stepsN20 vs os rs ≤ 16384
   ·obtain ⟨hc, hn, hf⟩ := fitD_parts h1
    obtain ⟨f, w, rfl, u, ha, hd, m', hm, hma⟩ := chk_tree hc
    cases he : (frOf f.flat).exec vs (startW vs ns) with
    | none => simp [runD, h1, h2, h3, he]
    | some x =>
     have e : runD vs f.flat rs ns = ((outV vs).map fun i => toL (x.getD i 0), 0) := by simp [runD, h1, h2, h3, he]
     rw [e]
     refine ⟨fun h => absurd rfl h, fun _ => ⟨by simp, fun i i1 i2 => ?_, h2, h1⟩⟩
     rw [frOf_flat w] at he
     have hk := exec_ok f _ x w ha (okV_start hf) he
     have hlt : (outV vs)[i] < vs.length := outV_lt (List.getElem_mem i2)
     have hb := hk.2 _ hlt
     simp only [List.getElem_map]
     have := toL_length_le hb
     have hz : 0 < two64 (gv vs (outV vs)[i]).limbs := two64_pos _
     have hv : 0 ≤ (gv vs (outV vs)[i]).limbs := by
      have hv : varsB vs = true := by unfold chkB at hc; simp only [Bool.and_eq_true] at hc; exact hc.1
      have := limbs_at hv (v := ((outV vs)[i] : Nat)) (by omega) (by omega)
      simp only [limbsAt, Int.toNat_natCast] at this
      omega
     omega
   ·simp [runD, h1, h2, h3]
  ·simp [runD, h1, h2]
 ·simp [runD, h1]
theorem run_map {vs : List Vr} {os rs : List Ko} {ns : List Nat} (hc : chkB vs os rs = true) : runD vs (os.map unK) rs ns = runD vs os rs ns := by
 obtain ⟨f, w, rfl, u, ha, hd, m', hm, hma⟩ := chk_tree hc
 have hc2 := chk_map hc
 have e0 : frOf (f.flat.map unK) = f.map unK := by rw [← flat_map, frOf_flat (wf_map f w)]
 have e1 : fitD vs (f.flat.map unK) rs ns = fitD vs f.flat rs ns := by simp [fitD, hc, hc2]
 have e2 : metD vs (f.flat.map unK) rs ns = metD vs f.flat rs ns := by simp [metD, e1]
 have e3 : stepsN20 vs (f.flat.map unK) rs = stepsN20 vs f.flat rs := by simp [stepsN20, hc, hc2, e0, frOf_flat w, stepsT_map]
 unfold runD
 rw [e1, e2, e3, e0, frOf_flat w, exec_map]
theorem run_same {vs : List Vr} {f g : Fr Ko} {rs : List Ko} {ns : List Nat} (wf : f.wf kdK) (wg : g.wf kdK) (hf : chkB vs f.flat rs = true) (hg : chkB vs g.flat rs = true) (hs : f.stepsT ≤ 16384) (ht : g.stepsT ≤ 16384) (he : ∀ v, okV vs v → g.exec vs v = f.exec vs v) : runD vs g.flat rs ns = runD vs f.flat rs ns := by
 have e1 : fitD vs g.flat rs ns = fitD vs f.flat rs ns := by simp [fitD, hf, hg]
 have e2 : metD vs g.flat rs ns = metD vs f.flat rs ns := by simp [metD, e1]
 have s1 : stepsN20 vs f.flat rs ≤ 16384 := by unfold stepsN20; rw [if_pos hf, frOf_flat wf]; omega
 have s2 : stepsN20 vs g.flat rs ≤ 16384 := by unfold stepsN20; rw [if_pos hg, frOf_flat wg]; omega
 unfold runD
 rw [e1, e2, if_pos s1, if_pos s2, frOf_flat wf, frOf_flat wg]
 split
 ·rename_i h
  rw [he _ (okV_start (fitD_parts h).2.2)]
 ·rfl
end Go.Sv
namespace Go.Sv
theorem steps_le {vs : List Vr} {f : Fr Ko} {rs : List Ko} {n : Nat} (w : f.wf kdK) (hc : chkB vs f.flat rs = true) (hn : n < cap40) (h : stepsN20 vs f.flat rs ≤ n) : f.stepsT ≤ n := by
 unfold stepsN20 at h
 rw [if_pos hc, frOf_flat w] at h
 omega
theorem chk_all {vs : List Vr} {os rs : List Ko} (h : chkB vs os rs = true) : ∀ o ∈ os, oneB vs o = true := by
 obtain ⟨f, w, rfl, u, ha, _⟩ := chk_tree h
 exact ha
theorem rep_len {α : Type} (l : List α) : ∀ n : Nat, ((List.replicate n l).flatten).length = n * l.length
 | 0 => by simp
 | n + 1 => by rw [List.replicate_succ, List.flatten_cons, List.length_append, rep_len l n, Nat.add_mul]; omega
theorem run_unroll {vs : List Vr} {os rs : List Ko} {ns : List Nat} {j : Nat} {o : Ko} (hc : chkB vs os rs = true) (hs : stepsN20 vs os rs ≤ 300) (hl : os.length ≤ 40) (ho : os[j]? = some o) (hk : o.kind = 15) (hi : o.imm.toNat ≤ 20) :
  ∃ e : Nat, (endsL kdK os)[j]? = some (e : Int) ∧ j < e ∧ e < os.length ∧ runD vs (os.take j ++ ((List.replicate o.imm.toNat ((os.drop (j + 1)).take (e - (j + 1)))).flatten ++ os.drop (e + 1))) rs ns = runD vs os rs ns ∧
   stepsN20 vs (os.take j ++ ((List.replicate o.imm.toNat ((os.drop (j + 1)).take (e - (j + 1)))).flatten ++ os.drop (e + 1))) rs < stepsN20 vs os rs := by
 obtain ⟨f, w, rfl, u, ha, hd, m', hm, hma⟩ := chk_tree hc
 obtain ⟨e, h1, h2, h3, h4⟩ := flat_unroll f 0 j w o ho hk
 rw [Fr.flat_len] at hl
 refine ⟨e, ?_, h2, by rw [Fr.flat_len]; exact h3, ?_⟩
 ·rw [endsL_tree w, h1]; simp
 rw [← h4]
 have ht := steps_le w hc (by decide) hs
 have hlt := stepsT_unroll f j w u ⟨o, ho, hk⟩
 have hlen : (f.unroll j).flat.length ≤ 4096 := by
  rw [h4]
  have hz : (f.flat.drop (j + 1)).length ≤ 40 := by rw [List.length_drop, Fr.flat_len]; omega
  have hq : ((f.flat.drop (j + 1)).take (e - (j + 1))).length ≤ 40 := by rw [List.length_take]; omega
  have hm : o.imm.toNat * ((f.flat.drop (j + 1)).take (e - (j + 1))).length ≤ 20 * 40 := Nat.mul_le_mul hi hq
  have h1 : (f.flat.take j).length ≤ 40 := by rw [List.length_take, Fr.flat_len]; omega
  have h2 : (f.flat.drop (e + 1)).length ≤ 40 := by rw [List.length_drop, Fr.flat_len]; omega
  rw [List.length_append, List.length_append, rep_len]
  omega
 have hg := chk_unroll w hc j hlen
 have wg := wf_unroll f j w
 refine ⟨run_same w wg hc hg (by omega) (by omega) fun v _ => exec_unroll f j v, ?_⟩
 unfold stepsN20
 rw [if_pos hc, if_pos hg, frOf_flat w, frOf_flat wg]
 have : f.stepsT < cap40 := by unfold cap40; omega
 omega
end Go.Sv
namespace Go.Sv
def vaC (v : List Nat) : List LV := v.map fun x => LU (toL x)
theorem vaC_len (v : List Nat) : (vaC v).length = v.length := by simp [vaC]
theorem LU_dat (a : List UInt64) : (LU a).dat = true := by
 simp only [LU, LV.dat]
 exact dats_map (fun _ => rfl) a
theorem vaC_dats (v : List Nat) : dats (vaC v) = true := dats_map (fun _ => LU_dat _) v
theorem vaC_at {v : List Nat} {i : Nat} (h : i < v.length) : (vaC v)[i]? = some (LU (toL (v.getD i 0))) := by
 simp [vaC, List.getD_eq_getElem?_getD, h]
theorem vaC_set (v : List Nat) (i x : Nat) : (vaC v).set i (LU (toL x)) = vaC (v.set i x) := by simp [vaC, List.map_set]
theorem vaC_rep (n : Nat) : vaC (List.replicate n 0) = List.replicate n (.lst [] 0 1) := by
 simp [vaC, LU, toL_zero]
theorem start_cells {n : Nat} (c : Cx) (r : List AV) (h : ARs c (repL [.nilSl] n) r) : ARs c (vaC (List.replicate n 0)) r := by
 rw [vaC_rep]; exact nils_lst n r h
def cV (v : List Nat) (i : Int) : LV := if i < 0 then .nilSl else LU (toL (v.getD i.toNat 0))
theorem cV_arg {c : Cx} {v : List Nat} {i : Int} {a : AV} (h : AR c (cV v i) a) : AR c (LU (toL (gN v i))) a := by
 unfold cV at h
 unfold gN
 by_cases g : i < 0
 ·rw [if_pos g] at h ⊢
  rw [toL_zero]
  exact nil_lst h
 ·rw [if_neg g] at h ⊢
  exact h
theorem cV_cells (v : List Nat) (i : Int) : (cV v i).cells = some [cV v i] := by
 unfold cV
 split <;> rfl
theorem cl_i (n : Int) : (LV.i n).cells = some [.i n] := rfl
theorem cl_u (n : UInt64) : (LV.u n).cells = some [.u n] := rfl
theorem cl_agg (l : List LV) : (LV.agg l).cells = some l := rfl
theorem cl_lst (l : List LV) (n m : Nat) : (LV.lst l n m).cells = some [.lst l n m] := rfl
theorem arg_ok {c : Cx} {v : List Nat} {l w a b d : Int} {n : UInt64} {r : List AV} (h : ARs c [.agg [.i l, .u n, cV v a, cV v b, cV v d, .i w]] r) : ARs c [.agg [.i l, .u n, LU (toL (gN v a)), LU (toL (gN v b)), LU (toL (gN v d)), .i w]] r := by
 cases h with
 | cons e es =>
  cases e with
  | agg h =>
   cases h with
   | cons e1 h => cases h with
    | cons e2 h => cases h with
     | cons e3 h => cases h with
      | cons e4 h => cases h with
       | cons e5 h => exact .cons (.agg (.cons e1 (.cons e2 (.cons (cV_arg e3) (.cons (cV_arg e4) (.cons (cV_arg e5) h)))))) es
theorem okV_len {vs : List Vr} {v : List Nat} (hv : varsB vs = true) (h : okV vs v) (i : Nat) : (toL (v.getD i 0)).length ≤ 512 := by
 by_cases hi : i < vs.length
 ·have h1 := h.2 i hi
  have h2 := varsB_limbs hv _ (gv_mem hi)
  have := toL_length_le h1
  omega
 ·rw [List.getD_eq_getElem?_getD, List.getElem?_eq_none (by rw [h.1]; omega)]
  simp [toL_zero]
theorem okV_lenN {vs : List Vr} {v : List Nat} (hv : varsB vs = true) (h : okV vs v) (i : Int) : (toL (gN v i)).length ≤ 512 := by
 unfold gN
 split
 ·simp [toL_zero]
 ·exact okV_len hv h _
def stM (os : List Ko) (es : List Int) : Nat → List Ko → List Nat → List Nat
 | _, [], st => st
 | i, o :: l, st => if o.kind = 15 then stM os es (i + 1) l (1 :: st) else if o.kind = 16 then (match st with
   | a :: b :: s => stM os es (i + 1) l (min cap40 (b + a * (go os (gd es i).toNat).imm.toNat) :: s)
   | _ => []) else (match st with
   | a :: s => stM os es (i + 1) l (min cap40 (a + 1) :: s)
   | [] => [])
theorem stM_tree {os : List Ko} {es : List Int} : ∀ (f : Fr Ko) (i s : Nat) (st : List Nat) (rest : List Ko) (rs : List Int), f.wf kdK → os.drop i = f.flat ++ rest → es.drop i = f.ends i ++ rs →
  stM os es i (f.flat ++ rest) (s :: st) = stM os es (i + f.size) rest (f.stepsD s :: st)
 | .nil, i, s, st, rest, rs, _, _, _ => by simp [Fr.flat, Fr.size, Fr.stepsD]
 | .op o r, i, s, st, rest, rs, w, h1, h2 => by
  simp only [Fr.flat, Fr.ends, List.cons_append] at h1 h2
  obtain ⟨a1, a2⟩ := drop_at h1
  obtain ⟨b1, b2⟩ := drop_at h2
  have k1 : ¬ o.kind = 15 := fun h => by have := w.1; simp [kdK, h] at this
  have k2 : ¬ o.kind = 16 := fun h => by have := w.1; simp [kdK, h] at this
  simp only [Fr.flat, List.cons_append, stM, k1, k2, if_false, Fr.stepsD, Fr.size]
  rw [stM_tree r (i + 1) _ st rest rs w.2 a2 b2, show i + 1 + r.size = i + (r.size + 1) by omega]
 | .loop o b e r, i, s, st, rest, rs, w, h1, h2 => by
  obtain ⟨w1, w2, w3, w4⟩ := w
  simp only [Fr.flat, Fr.ends, List.cons_append, List.append_assoc] at h1 h2
  obtain ⟨a1, a2⟩ := drop_at h1
  obtain ⟨b1, b2⟩ := drop_at h2
  have k15 := kd_1.1 w1
  have k16 := kd_2.1 w2
  have a3 := drop_more a2
  have b3 := drop_more b2
  rw [Fr.flat_len] at a3
  rw [Fr.ends_len] at b3
  obtain ⟨a4, a5⟩ := drop_at a3
  obtain ⟨b4, b5⟩ := drop_at b3
  have ge : gd es (i + 1 + b.size) = i := by simp [gd, List.getD_eq_getElem?_getD, b4]
  have gi : go os i = o := by simp [go, List.getD_eq_getElem?_getD, a1]
  have k1 : ¬ (16 : Int) = 15 := by omega
  simp only [Fr.flat, List.cons_append, List.append_assoc, stM, k15, if_true, Fr.stepsD, Fr.size]
  rw [stM_tree b (i + 1) 1 (s :: st) (e :: (r.flat ++ rest)) _ w3 a2 b2]
  simp only [stM, k16, k1, if_false, if_true, ge, Int.toNat_natCast, gi]
  have b6 : es.drop (i + 1 + b.size + 1) = r.ends (i + 1 + b.size + 1) ++ rs := by
   rw [b5]; congr 2; omega
  rw [stM_tree r (i + 1 + b.size + 1) _ st rest rs w4 a5 b6, show i + 1 + b.size + 1 + r.size = i + (b.size + r.size + 2) by omega]
theorem stM_all {os : List Ko} {f : Fr Ko} (hw : f.wf kdK) (hf : os = f.flat) : stM os (f.ends 0) 0 os [0] = [f.stepsD 0] := by
 have h := stM_tree (os := os) (es := f.ends 0) f 0 0 [] [] [] hw (by simp [hf]) (by simp)
 rw [List.append_nil, ← hf] at h
 rw [h]; simp [stM]
theorem steps_stM {vs : List Vr} {f : Fr Ko} {rs : List Ko} (w : f.wf kdK) (u : f.once) (hc : chkB vs f.flat rs = true) : f.stepsD 0 = stepsN20 vs f.flat rs := by
 rw [stepsD_eq f 0 u (Nat.zero_le _)]
 unfold stepsN20
 rw [if_pos hc, frOf_flat w, Nat.zero_add]
end Go.Sv
namespace Go.Sv
theorem zip_at {a b : List Nat} {j : Nat} (h1 : j < a.length) (h2 : j < b.length) : (a.zip b)[j]? = some (a.getD j 0, b.getD j 0) := by
 simp [List.getElem?_zip_eq_some, List.getD_eq_getElem?_getD, h1, h2]
theorem fitsD_iff {vs : List Vr} {ns : List Nat} (hl : (inV vs).length = ns.length) : fitsD vs ns = true ↔ ∀ j, j < ns.length → ns.getD j 0 < two64 (gv vs ((inV vs).getD j 0)).limbs := by
 unfold fitsD
 rw [List.all_eq_true]
 constructor
 ·intro h j hj
  have := h _ (List.mem_of_getElem? (zip_at (a := inV vs) (b := ns) (by omega) hj))
  exact of_decide_eq_true this
 ·intro h p hp
  obtain ⟨j, hj, rfl⟩ := List.mem_iff_getElem.1 hp
  have hj2 : j < ns.length := by simp at hj; omega
  have e := zip_at (a := inV vs) (b := ns) (j := j) (by omega) hj2
  rw [List.getElem?_eq_getElem hj] at e
  rw [Option.some.inj e]
  exact decide_eq_true (h j hj2)
theorem long_iff (n : Nat) (l : Int) (h : 0 ≤ l) : ((toL n).length : Int) ≤ l ↔ n < two64 l := by
 unfold two64
 rw [← toL_len_iff]
 omega
theorem fill_cut {a b : List Nat} {j : Nat} (h1 : j < a.length) (h2 : j < b.length) (v : List Nat) : ((a.zip b).drop j).foldl (fun v p => v.set p.1 p.2) v = ((a.zip b).drop (j + 1)).foldl (fun v p => v.set p.1 p.2) (v.set (a.getD j 0) (b.getD j 0)) := by
 have e := zip_at h1 h2
 have h3 : j < (a.zip b).length := by simp; omega
 rw [List.getElem?_eq_getElem h3] at e
 rw [List.drop_eq_getElem_cons h3, Option.some.inj e]
 rfl
theorem met_c {o : Ko} {v : List Nat} (h : metB o v = true) (hk : o.kind = 9 ∨ o.kind = 10 ∨ o.kind = 11 ∨ o.kind = 12 ∨ o.kind = 13) : gN v o.c ≠ 0 := by
 rcases hk with hk | hk | hk | hk | hk <;> simp [metB, needsL, hk, holdsB] at h <;> omega
theorem inV_len (vs : List Vr) : (inV vs).length ≤ vs.length := by
 have := List.length_filter_le (fun i => givenB (gv vs i)) (List.range vs.length)
 simpa [inV] using this
theorem inV_at {vs : List Vr} {j : Nat} (h : j < (inV vs).length) : (inV vs).getD j 0 < vs.length := by
 have : (inV vs).getD j 0 ∈ inV vs := by
  rw [List.getD_eq_getElem?_getD, List.getElem?_eq_getElem h]
  exact List.getElem_mem h
 exact inV_lt this
def thoseV (p : Vr → Bool) (vs : List Vr) (n : Nat) : List Nat := (List.range n).filter fun i => p (gv vs i)
theorem thoseV_succ (p : Vr → Bool) (vs : List Vr) (n : Nat) : thoseV p vs (n + 1) = thoseV p vs n ++ if p (gv vs n) = true then [n] else [] := by
 unfold thoseV
 rw [List.range_succ, List.filter_append]
 congr 1
 by_cases h : p (gv vs n) = true <;> simp [h]
theorem thoseV_len (p : Vr → Bool) (vs : List Vr) (n : Nat) : (thoseV p vs n).length ≤ n := by
 have := List.length_filter_le (fun i => p (gv vs i)) (List.range n)
 simpa [thoseV] using this
theorem inV_those (vs : List Vr) : inV vs = thoseV givenB vs vs.length := rfl
theorem outV_those (vs : List Vr) : outV vs = thoseV (fun v => decide (v.mode = 3)) vs vs.length := rfl
def inZ (vs : List Vr) (os rs : List Ko) : List Nat := if chkB vs os rs = true then inV vs else []
def outZ (vs : List Vr) (os rs : List Ko) : List Nat := if chkB vs os rs = true then outV vs else []
end Go.Sv
namespace Go.Sv
def fcF (f : Fc) : List LV := [.i f.1, .i f.2.1, .i f.2.2]
def fcC (l : List Fc) : List LV := l.flatMap fcF
theorem fcF_len (f : Fc) : (fcF f).length = 3 := rfl
theorem fcC_dats (l : List Fc) : dats (fcC l) = true := fm_dats (f := fcF) (fun _ => rfl) l
theorem fc_three {l : List Fc} {i : Nat} (h : i < l.length) : ((fcC l).drop (i * 3)).take 3 = fcF l[i] := fm_take (f := fcF) fcF_len (List.getElem?_eq_getElem h)
theorem fc_lt {l : List Fc} {i : Nat} (h : i < l.length) : i * 3 + 3 ≤ (fcC l).length := fm_lt (f := fcF) fcF_len h
theorem needs_len (o : Ko) : (needsL o).length ≤ 3 := by
 unfold needsL
 repeat' split
 all_goals simp
theorem blen_pos (n : Nat) : (0 : Int) < (blen n : Int) ↔ 0 < n := by
 unfold blen
 by_cases h : n = 0
 ·simp [h]
 ·rw [if_neg h]; omega
theorem not_any_not {α : Type} (p : α → Bool) (l : List α) : (!(l.any fun x => !p x)) = l.all p := by
 induction l with
 | nil => rfl
 | cons a l ih => simp only [List.any_cons, List.all_cons, Bool.not_or, Bool.not_not, ih]
theorem len_lt {x c k : Nat} (h : x < c) (hc : (toL c).length ≤ k) : (toL x).length ≤ k := toL_length_le (Nat.lt_trans h (lt_of_toL_length hc))
theorem len_mul {x y k m : Nat} (hx : (toL x).length ≤ k) (hy : (toL y).length ≤ m) : (toL (x * y)).length ≤ k + m := by
 refine toL_length_le ?_
 have := Nat.mul_lt_mul'' (lt_of_toL_length hx) (lt_of_toL_length hy)
 rw [← Nat.pow_add, ← Nat.mul_add] at this
 exact this
theorem len_add {x y k : Nat} (hx : (toL x).length ≤ k) (hy : (toL y).length ≤ k) : (toL (x + y)).length ≤ k + 1 := by
 refine toL_length_le ?_
 have h1 := lt_of_toL_length hx
 have h2 := lt_of_toL_length hy
 rw [pow64_succ]
 omega
theorem low_len {k : Nat} (x : Nat) (l : Int) (hl : l ≤ k) : (toL (x % two64 l)).length ≤ k := by
 have h : x % two64 l < 2 ^ (64 * l.toNat) := Nat.mod_lt _ (two64_pos l)
 have := toL_length_le h
 omega
theorem top_len {k : Nat} (l : Int) (hl : l ≤ k) : (toL (two64 l)).length ≤ k + 1 := by
 refine toL_length_le ?_
 have h : two64 l ≤ 2 ^ (64 * k) := Nat.pow_le_pow_right (by decide) (by omega)
 have h2 : 0 < 2 ^ (64 * k) := Nat.pow_pos (by decide)
 rw [pow64_succ]
 omega
theorem len_le {x y k : Nat} (h : x ≤ y) (hy : (toL y).length ≤ k) : (toL x).length ≤ k := toL_length_le (Nat.lt_of_le_of_lt h (lt_of_toL_length hy))
def lpF (x : Int × Nat) : List LV := [.i x.1, .u (UInt64.ofNat x.2)]
def lpC (l : List (Int × Nat)) : List LV := l.reverse.flatMap lpF
theorem lpC_len (l : List (Int × Nat)) : (lpC l).length = l.length * 2 := by
 have := fm_len (f := lpF) (k := 2) (fun _ => rfl) l.reverse
 simpa [lpC] using this
theorem lpC_cons (x : Int × Nat) (l : List (Int × Nat)) : lpC (x :: l) = lpC l ++ lpF x := by simp [lpC]
theorem lpC_at (x : Int × Nat) (l : List (Int × Nat)) : (lpC (x :: l))[l.length * 2 + 1]? = some (.u (UInt64.ofNat x.2)) := by
 rw [lpC_cons, List.getElem?_append_right (by rw [lpC_len]; omega), lpC_len, show l.length * 2 + 1 - l.length * 2 = 1 by omega]; rfl
theorem lpC_set (e : Int) (m m' : Nat) (l : List (Int × Nat)) : (lpC ((e, m) :: l)).set (l.length * 2 + 1) (.u (UInt64.ofNat m')) = lpC ((e, m') :: l) := by
 rw [lpC_cons, lpC_cons, List.set_append, if_neg (by rw [lpC_len]; omega), lpC_len, show l.length * 2 + 1 - l.length * 2 = 1 by omega]; rfl
theorem lpC_take (x : Int × Nat) (l : List (Int × Nat)) : (lpC (x :: l)).take (l.length * 2) = lpC l := by
 rw [lpC_cons, List.take_left' (lpC_len l)]
theorem abc_lt {vs : List Vr} {o : Ko} (h : oneB vs o = true) : o.a < vs.length ∧ o.b < vs.length ∧ o.c < vs.length := by
 have ht := (one_in h).takes
 have key : ∀ x ∈ [o.a, o.b, o.c], x < vs.length := fun x hx => by
  by_cases g : x < 0
  ·omega
  ·refine (ht x ?_).2
   unfold takesL
   exact List.mem_append_left _ (List.mem_filter.2 ⟨hx, by simpa using g⟩)
 exact ⟨key _ (by simp), key _ (by simp), key _ (by simp)⟩
theorem ends_end : ∀ (f : Fr Ko) (i j : Nat), f.wf kdK → ∀ o, f.flat[j]? = some o → o.kind = 16 → ∃ e : Nat, (f.ends i)[j]? = some (e : Int) ∧ e < i + f.size
 | .nil, i, j, _, o, h, _ => by simp [Fr.flat] at h
 | .op o r, i, 0, w, x, h, hk => by
  simp [Fr.flat] at h
  subst h
  have := w.1
  simp [kdK, hk] at this
 | .op o r, i, j + 1, w, x, h, hk => by
  simp only [Fr.flat, List.getElem?_cons_succ] at h
  obtain ⟨e, h1, h2⟩ := ends_end r (i + 1) j w.2 x h hk
  exact ⟨e, by simpa [Fr.ends] using h1, by simp only [Fr.size]; omega⟩
 | .loop o b e r, i, 0, w, x, h, hk => by
  simp [Fr.flat] at h
  subst h
  have := kd_1.1 w.1
  omega
 | .loop o b e r, i, j + 1, w, x, h, hk => by
  obtain ⟨_, _, w3, w4⟩ := w
  simp only [Fr.flat, List.getElem?_cons_succ] at h
  simp only [Fr.ends, List.getElem?_cons_succ, Fr.size]
  by_cases h1 : j < b.size
  ·rw [List.getElem?_append_left (by rw [Fr.flat_len]; exact h1)] at h
   rw [List.getElem?_append_left (by rw [Fr.ends_len]; exact h1)]
   obtain ⟨y, q1, q2⟩ := ends_end b (i + 1) j w3 x h hk
   exact ⟨y, q1, by omega⟩
  ·rw [List.getElem?_append_right (by rw [Fr.flat_len]; omega), Fr.flat_len] at h
   rw [List.getElem?_append_right (by rw [Fr.ends_len]; omega), Fr.ends_len]
   by_cases h2 : j = b.size
   ·exact ⟨i, by rw [h2]; simp, by omega⟩
   ·obtain ⟨m, hm⟩ : ∃ m, j - b.size = m + 1 := ⟨j - b.size - 1, by omega⟩
    rw [hm, List.getElem?_cons_succ] at h ⊢
    obtain ⟨y, q1, q2⟩ := ends_end r (i + b.size + 2) m w4 x h hk
    exact ⟨y, q1, by omega⟩
theorem cost_le : ∀ f : Fr Ko, f.once → f.cost ≤ 2 * f.stepsT
 | .nil, _ => Nat.le_refl _
 | .op _ r, u => by have := cost_le r u; simp only [Fr.cost, Fr.stepsT]; omega
 | .loop o b _ r, u => by
  have h1 := cost_le b u.2.1
  have h2 := cost_le r u.2.2
  have h3 := u.1
  simp only [Fr.cost, Fr.stepsT]
  have h4 : o.imm.toNat * (b.cost + 1) ≤ o.imm.toNat * (2 * b.stepsT + 1) := Nat.mul_le_mul_left _ (by omega)
  have h5 : o.imm.toNat * (2 * b.stepsT + 1) + o.imm.toNat = 2 * (o.imm.toNat * (1 + b.stepsT)) := by
   rw [Nat.mul_add, Nat.mul_add, Nat.mul_left_comm]; omega
  omega
theorem end_at {vs : List Vr} {os rs : List Ko} (hc : chkB vs os rs = true) {i : Nat} {o : Ko} (ho : os[i]? = some o) (hk : o.kind = 16) : 0 ≤ gd (endsL kdK os) i ∧ gd (endsL kdK os) i < os.length := by
 obtain ⟨f, w, rfl, _⟩ := chk_tree hc
 rw [endsL_tree w]
 obtain ⟨e, h1, h2⟩ := ends_end f 0 i w o ho hk
 have : gd (f.ends 0) i = e := by simp [gd, List.getD_eq_getElem?_getD, h1]
 rw [this, Fr.flat_len]
 omega
theorem loop_imm {vs : List Vr} {o : Ko} (h : oneB vs o = true) (hk : o.kind = 15) : 1 ≤ o.imm.toNat ∧ o.imm.toNat ≤ 4096 := by
 obtain ⟨_, hn, _⟩ := one_parts (s := 0) h (by simp [shapeN, hk])
 simp [numB, hk] at hn
 exact ⟨UInt64.le_iff_toNat_le.1 hn.1, UInt64.le_iff_toNat_le.1 hn.2⟩
def runC (vs : List Vr) (os rs : List Ko) (E V L : LV) : List LV := [.lst (vsC vs) vs.length 3, .lst (osC os) os.length 7, .lst (osC rs) rs.length 7, E, V, L]
end Go.Sv
namespace Go.Sv
theorem run_mrun2 {vs : List Vr} {os rs : List Ko} (hc : chkB vs os rs = true) (hs : stepsN20 vs os rs ≤ 16384) (v : List Nat) : ∃ n, n ≤ 100000 ∧ mrun vs os (endsL kdK os) n 0 v [] = some ((frOf os).exec vs v) := by
 obtain ⟨f, w, rfl, u, _⟩ := chk_tree hc
 have h1 := steps_le w hc (by decide) hs
 have h2 := cost_le f u
 exact ⟨f.cost + 1, by omega, by rw [endsL_tree w, frOf_flat w]; exact mrun_all w u rfl v⟩
theorem stepsR_le : ∀ (f : Fr Ko) (n : Nat), n ≤ cap40 → f.stepsR n ≤ cap40
 | .nil, _, h => h
 | .op _ r, _, _ => stepsR_le r _ (Nat.min_le_right _ _)
 | .loop _ _ _ r, _, _ => stepsR_le r _ (Nat.min_le_right _ _)
theorem steps_R {vs : List Vr} {f : Fr Ko} {rs : List Ko} (w : f.wf kdK) (u : f.once) (hc : chkB vs f.flat rs = true) : f.stepsR 0 = stepsN20 vs f.flat rs := by
 rw [stepsR_eq f 0 u (Nat.zero_le _)]
 unfold stepsN20
 rw [if_pos hc, frOf_flat w, Nat.zero_add]
theorem fm_takeN {α : Type} {f : α → List LV} {k : Nat} (hf : ∀ a, (f a).length = k) : ∀ (l : List α) (i : Nat), (l.flatMap f).take (i * k) = (l.take i).flatMap f
 | [], i => by simp
 | a :: l, 0 => by simp
 | a :: l, i + 1 => by
  rw [List.flatMap_cons, List.take_succ_cons, List.flatMap_cons, Nat.add_mul, Nat.one_mul, List.take_append, List.take_of_length_le (by rw [hf]; omega), hf, Nat.add_sub_cancel, fm_takeN hf l i]
theorem osC_take (os : List Ko) (n : Nat) : (osC os).take (n * 7) = osC (os.take n) := fm_takeN Ko.f_len os n
theorem osC_drop (os : List Ko) (n : Nat) : (osC os).drop (n * 7) = osC (os.drop n) := fm_drop Ko.f_len os n
theorem min_cast (a C : Nat) : min (a : Int) (C : Int) = ((min a C : Nat) : Int) := by omega
theorem cap_int : ((cap40 : Nat) : Int) = 1099511627776 := rfl
theorem min40 (a : Nat) : min (a : Int) 1099511627776 = ((min a cap40 : Nat) : Int) := by rw [← cap_int]; exact min_cast _ _
theorem min40' (a : Nat) : min 1099511627776 (a : Int) = ((min cap40 a : Nat) : Int) := by rw [← cap_int]; exact min_cast _ _
theorem ends_loop : ∀ (f : Fr Ko) (i j : Nat), f.wf kdK → ∀ o, f.flat[j]? = some o → o.kind = 16 → ∃ e : Nat, (f.ends i)[j]? = some ((i + e : Nat) : Int) ∧ ∃ x, f.flat[e]? = some x ∧ x.kind = 15
 | .nil, i, j, _, o, h, _ => by simp [Fr.flat] at h
 | .op o r, i, 0, w, x, h, hk => by
  simp [Fr.flat] at h
  subst h
  have := w.1
  simp [kdK, hk] at this
 | .op o r, i, j + 1, w, x, h, hk => by
  simp only [Fr.flat, List.getElem?_cons_succ] at h
  obtain ⟨e, h1, y, h2, h3⟩ := ends_loop r (i + 1) j w.2 x h hk
  exact ⟨e + 1, by simp only [Fr.ends, List.getElem?_cons_succ]; rw [h1]; congr 2; omega, y, by simpa [Fr.flat] using h2, h3⟩
 | .loop o b e r, i, 0, w, x, h, hk => by
  simp [Fr.flat] at h
  subst h
  have := kd_1.1 w.1
  omega
 | .loop o b e r, i, j + 1, w, x, h, hk => by
  obtain ⟨w1, _, w3, w4⟩ := w
  simp only [Fr.flat, List.getElem?_cons_succ] at h
  simp only [Fr.ends, List.getElem?_cons_succ, Fr.flat]
  by_cases h1 : j < b.size
  ·rw [List.getElem?_append_left (by rw [Fr.flat_len]; exact h1)] at h
   rw [List.getElem?_append_left (by rw [Fr.ends_len]; exact h1)]
   obtain ⟨y, q1, z, q2, q3⟩ := ends_loop b (i + 1) j w3 x h hk
   refine ⟨y + 1, by rw [q1]; congr 2; omega, z, ?_, q3⟩
   rw [List.getElem?_cons_succ, List.getElem?_append_left (List.getElem?_eq_some_iff.1 q2).1]; exact q2
  ·rw [List.getElem?_append_right (by rw [Fr.flat_len]; omega), Fr.flat_len] at h
   rw [List.getElem?_append_right (by rw [Fr.ends_len]; omega), Fr.ends_len]
   by_cases h2 : j = b.size
   ·exact ⟨0, by rw [h2]; simp, o, by simp, kd_1.1 w1⟩
   ·obtain ⟨m, hm⟩ : ∃ m, j - b.size = m + 1 := ⟨j - b.size - 1, by omega⟩
    rw [hm, List.getElem?_cons_succ] at h ⊢
    obtain ⟨y, q1, z, q2, q3⟩ := ends_loop r (i + b.size + 2) m w4 x h hk
    refine ⟨b.size + 2 + y, by rw [q1]; congr 2; omega, z, ?_, q3⟩
    rw [show b.size + 2 + y = (b.size + (y + 1)) + 1 by omega, List.getElem?_cons_succ, List.getElem?_append_right (by rw [Fr.flat_len]; omega), Fr.flat_len, show b.size + (y + 1) - b.size = y + 1 by omega, List.getElem?_cons_succ]
    exact q2
theorem end_imm {vs : List Vr} {os rs : List Ko} (hc : chkB vs os rs = true) {i : Nat} {o : Ko} (ho : os[i]? = some o) (hk : o.kind = 16) : (go os (gd (endsL kdK os) i).toNat).imm.toNat ≤ 4096 := by
 obtain ⟨f, w, rfl, u, ha, _⟩ := chk_tree hc
 rw [endsL_tree w]
 obtain ⟨e, h1, x, h2, h3⟩ := ends_loop f 0 i w o ho hk
 have e1 : gd (f.ends 0) i = e := by simp [gd, List.getD_eq_getElem?_getD, h1]
 have e2 : go f.flat e = x := by simp [go, List.getD_eq_getElem?_getD, h2]
 rw [e1, Int.toNat_natCast, e2]
 exact (loop_imm (ha x (List.mem_of_getElem? h2)) h3).2
end Go.Sv
