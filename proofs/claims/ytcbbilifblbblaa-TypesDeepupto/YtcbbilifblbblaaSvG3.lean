/- Texts of the evaluator, of the logic over it, of plain arithmetic. -/
import Derived.Test.YtcbbilifblbblaaSvG2
import Derived.Test.YtcbbilifblbblaaSvG1
import Derived.OpenShut
import Derived.Carry
import Derived.WalkKit
import Derived.ProofKit
import Derived.WideKeyArgs
import Derived.ChangeCalls
namespace Go.Sv
section fns
variable {P : Program}
theorem lk_argsL : ∀ (l : List LV) (i t : Nat), lk (argsL l i) t = if i ≤ t ∧ t < i + l.length then l.getD (t - i) .any else .any
 | [], i, t => by simp only [argsL, lk_nil, List.length_nil]; rw [if_neg (by omega)]
 | v :: l, i, t => by
  simp only [argsL, lk_cons, List.length_cons]
  rw [lk_argsL l (i + 1) t]
  by_cases h : t = i
  ·subst h; rw [if_pos rfl, if_pos (by omega)]; simp
  ·rw [if_neg h]
   by_cases h2 : i + 1 ≤ t ∧ t < i + 1 + l.length
   ·rw [if_pos h2, if_pos (by omega), show t - i = (t - (i + 1)) + 1 from by omega]; simp
   ·rw [if_neg h2, if_neg (by omega)]
theorem EnvL.start {c : Cx} {args : List LV} {args1 : List AV} (h : ARs c args args1) : EnvL c (argsL args 0) (ofListFrom args1 0 .e) := by
 intro t
 rw [lk_argsL, get_ofList, getP_e]
 have hl := h.length
 by_cases ht : t < args.length
 ·rw [if_pos (by omega), if_pos (by omega)]
  obtain ⟨a, q1, q2⟩ := h.get (List.getElem?_eq_getElem ht)
  rw [Nat.sub_zero, q1, List.getD_eq_getElem?_getD, List.getElem?_eq_getElem ht]
  exact q2
 ·rw [if_neg (by omega)]; exact .any _
theorem takeL_ok {K : LHeap → Prop} : ∀ {D : List Nat} {D1 : List Nat} {c : Cx} {G : LHeap}, DRs c D D1 → HSim c G → takeL D G K → ∃ c' G', takeDefs D1 c.H = some c'.H ∧ HSim c' G' ∧ Step c G c' G' ∧ K G'
 | [], _, c, G, .nil, hs, h => ⟨c, G, rfl, hs, .refl c G, h⟩
 | d :: D, _, c, G, .cons (o := o) e es, hs, h => by
  simp only [takeL] at h
  split at h
  ·rename_i hg
   obtain ⟨_, o', he, hget⟩ := hs.obj d _ _ _ hg e
   injection he with he
   subst he
   obtain ⟨q1, q2, q3⟩ := hs.upd (k' := 0) (x' := .ptr o 0 0) (ob' := .defd false) (H' := c.H.put o (.defd false)) hg rfl e (Nat.le_refl _) (fun o' _ hne => Heap.get_put_ne _ _ (fun q => hne (by rw [q]; rfl)))
    (fun o' e' => by cases e'; exact ⟨.inl rfl, hs.lt o ⟨d, _, _, _, hg, rfl, e, rfl⟩⟩) (Nat.le_refl _) (fun _ => rfl) (fun _ => rfl) (.inr ⟨rfl, Nat.le_refl _⟩) (fun _ => ⟨rfl, o, rfl, Heap.get_put_same _ _ _⟩)
   obtain ⟨c', G', r1, r2, r3, r4⟩ := takeL_ok (es.mono q3) q1 h
   refine ⟨c', G', ?_, r2, .trans hs q1 q2 r3, r4⟩
   simp only [takeDefs]
   rw [hget]
   exact r1
  ·exact h.elim
def oneA : List AV → AV
 | [v] => v
 | l => .tup l
theorem CallL_body {f : Nat} {s : LC} {n : Nat} {rs : List RRes} (hf : resFn P f = some ⟨n, s.r, rs⟩) (hok : s.ok = true) {args : List LV} (hn : args.length ≤ n) {G : LHeap} {K : LV → LHeap → Prop}
  (h : W P f n s none (argsL args 0) [] G fun x ρ D G' => (match x with | .exit _ => False | _ => True) ∧ takeL D G' fun G2 => resL ρ G2 rs fun vs => K (oneL vs) G2) : CallL P (.fn f) args G K := by
 unfold resFn at hf
 split at hf
 ·cases hf
 ·rename_i hcl
  simp only [Bool.and_eq_true, Bool.not_eq_true'] at hcl
  refine ⟨hcl.1, fun c t1 args1 hs ht ha => ?_⟩
  cases t1 with
  | yield o => exact ht.elim
  | fn g =>
   obtain rfl : f = g := ht
   split at hf
   ·cases hf
   ·rename_i fn hfn
    split at hf
    ·cases hf
    ·rename_i b hb
     split at hf
     ·cases hf
     ·rename_i hlim
      split at hf
      ·cases hf
      ·rename_i rc hrc
       split at hf
       ·cases hf
       ·rename_i rs' hrs
        cases hf
        obtain ⟨m, x, E', D1', c', ρ', D', G', q1, q2, q3, q4, q5, q6, q7⟩ := h b c _ [] none hrc hok hs (EnvL.start ha) .nil trivial
        obtain ⟨c2, G2, r1, r2, r3, r4⟩ := takeL_ok q5 q2 q7
        obtain ⟨vs, as, s1, s2, s3⟩ := resR_ok r2 (q4.mono r3.le) hrs r4
        have hone : AR c2 (oneL vs) (oneA as) := by
         cases s2 with
         | nil => exact .tup .nil
         | cons e es =>
          cases es with
          | nil => exact e
          | cons e2 es2 => exact .tup (.cons e (.cons e2 es2))
        refine ⟨m + 1, oneA as, c2.H, ?_, c2, oneL vs, G2, rfl, r2, .trans hs q2 q3 r3, hone, s3⟩
        unfold callA
        dsimp only
        rw [OL_no hcl.2]
        dsimp only
        unfold compFn
        rw [hfn]
        dsimp only
        rw [hb]
        dsimp only
        rw [if_pos (Nat.le_of_ble_eq_true hlim)]
        dsimp only
        have hba : Nat.ble args1.length fn.ntmps = true := Nat.ble_eq_true_of_le (by rw [← ha.length]; exact hn)
        rw [hba]
        dsimp only
        rw [q1]
        dsimp only
        cases x with
        | exit id => exact q6.elim
        | normal =>
         dsimp only
         rw [r1]
         dsimp only
         rw [s1]
         rcases as with _ | ⟨a, _ | ⟨a2, as⟩⟩ <;> rfl
        | ret =>
         dsimp only
         rw [r1]
         dsimp only
         rw [s1]
         rcases as with _ | ⟨a, _ | ⟨a2, as⟩⟩ <;> rfl
theorem CallL.mono {t : LTgt} {args : List LV} {G : LHeap} {K K' : LV → LHeap → Prop} (h : CallL P t args G K) (hk : ∀ v G, K v G → K' v G) : CallL P t args G K' :=
 ⟨h.1, fun c t1 args1 h1 h2 h3 => by
  obtain ⟨m, v1, H', q1, c', v, G', q2, q3, q4, q5, q6⟩ := h.2 c t1 args1 h1 h2 h3
  exact ⟨m, v1, H', q1, c', v, G', q2, q3, q4, q5, hk _ _ q6⟩⟩
mutual
def LV.sim (m : Nat) : LV → Bool
 | .bool _ | .u _ | .b _ | .i _ | .int _ _ | .str _ | .nilPtr | .nilSl | .nilMap | .nilFn | .nilIf => true
 | .dy j k => k == 0 && decide (j < m)
 | .agg l => sims m l
 | .tup l => sims m l
 | _ => false
def sims (m : Nat) : List LV → Bool
 | [] => true
 | v :: l => v.sim m && sims m l
end
mutual
def subV (sel : List LV) : LV → LV
 | .dy j _ => sel.getD j .any
 | .agg l => .agg (subVs sel l)
 | .tup l => .tup (subVs sel l)
 | v => v
def subVs (sel : List LV) : List LV → List LV
 | [] => []
 | v :: l => subV sel v :: subVs sel l
end
def notP (p : Nat) : LV → Prop
 | .dy q _ => q ≠ p
 | _ => True
def SelR (G : LHeap) : List LV → LHeap → Prop
 | [], [] => True
 | .dy p k :: s, .dyn l len esz ver st :: g => ver = 0 ∧ l.all LV.scal = true ∧ (∃ st', G[p]? = some (.dyn l len esz k st')) ∧ st = 0 ∧ (∀ x ∈ s, notP p x) ∧ SelR G s g
 | .nilSl :: s, .dyn l len _ ver st :: g => ver = 0 ∧ st = 0 ∧ l = [] ∧ len = 0 ∧ SelR G s g
 | _, _ => False
def FnS (P : Program) (f : Nat) (args : List LV) (v0 : LV) (G0 : LHeap) : Prop :=
 tgtOk P (.fn f) ∧ v0.sim G0.length = true ∧ (∀ (j : Nat) (ob : LObj), G0[j]? = some ob → ∃ l len esz, ob = .dyn l len esz 0 0 ∧ l.all LV.scal = true) ∧ ∀ (Fz : Nat → Prop) (H : Heap) (args1 : List AV), (∀ o, Fz o → o < H.next) → ARs ⟨[], Fz, H⟩ args args1 →
  ∃ m v1 hd' H', callA P (OL P) m (.fn f) args1 H = .ok v1 H' ∧ HSim ⟨hd', Fz, H'⟩ G0 ∧ AR ⟨hd', Fz, H'⟩ v0 v1 ∧ H.next ≤ H'.next ∧ (∀ o, o < H.next → H'.get o = H.get o) ∧ ∀ o, Own ⟨hd', Fz, H'⟩ G0 o → H.next ≤ o
theorem scals_any {c c' : Cx} : ∀ {l : List LV} {r : List AV}, l.all LV.scal = true → ARs c l r → ARs c' l r
 | [], _, _, .nil => .nil
 | v :: l, _, h, .cons e es => by
  simp only [List.all_cons, Bool.and_eq_true] at h
  refine .cons ?_ (scals_any h.2 es)
  cases v <;> first | (cases h.1; done) | (cases e; constructor)
theorem HSim.empty {Fz : Nat → Prop} {H : Heap} (h : ∀ o, Fz o → o < H.next) : HSim ⟨[], Fz, H⟩ [] :=
 ⟨rfl, h, fun o ⟨p, _, _, _, e, _⟩ => by simp at e, fun o ⟨p, _, _, _, e, _⟩ => by simp at e, fun p _ _ _ e => by simp at e, fun p _ _ _ _ _ _ _ _ e => by simp at e⟩
theorem sel_build {c : Cx} {G : LHeap} (hs : HSim c G) : ∀ {sel : List LV} {G0 : LHeap}, SelR G sel G0 → ∃ hd' : List (Nat × AV), hd'.length = G0.length ∧
  (∀ (j : Nat) (ob : LObj) (k : Nat) (h : AV), G0[j]? = some ob → hd'[j]? = some (k, h) → k = 0 ∧ (∀ c' : Cx, c'.H = c.H → ObR c' 0 h ob) ∧ (∃ l len esz, ob = .dyn l len esz 0 0 ∧ l.all LV.scal = true) ∧
   ((sel[j]? = some .nilSl ∧ h = .nilSl) ∨ ∃ p k', sel[j]? = some (.dy p k') ∧ c.hd[p]? = some (k', h) ∧ (∀ o, idOf h = some o → Own c G o) ∧ ∃ ob1, G[p]? = some ob1 ∧ ob1.live = true)) ∧
  (∀ (i j p k q k' : Nat), sel[i]? = some (.dy p k) → sel[j]? = some (.dy q k') → p = q → i = j)
 | [], [], _ => ⟨[], rfl, fun j ob k h e => by simp at e, fun i j p k q k' e => by simp at e⟩
 | [], _ :: _, h => h.elim
 | s :: sel, [], h => by cases s <;> exact h.elim
 | s :: sel, ob :: G0, h => by
  cases s <;> cases ob <;> first | exact h.elim | skip
  ·rename_i l len esz ver st
   obtain ⟨rfl, rfl, rfl, rfl, h⟩ := h
   obtain ⟨hd', q1, q2, q3⟩ := sel_build hs h
   refine ⟨(0, .nilSl) :: hd', by simp [q1], fun j ob k h e1 e2 => ?_, fun i j p k q k' e1 e2 e3 => ?_⟩
   ·cases j with
    | zero =>
     simp only [List.getElem?_cons_zero, Option.some.injEq] at e1 e2
     cases e1; cases e2
     exact ⟨rfl, fun c' _ => ⟨rfl, by simp, .inl ⟨rfl, rfl⟩⟩, ⟨_, _, _, rfl, rfl⟩, .inl ⟨rfl, rfl⟩⟩
    | succ j => exact q2 j ob k h (by simpa using e1) (by simpa using e2)
   ·cases i with
    | zero => simp at e1
    | succ i => cases j with
     | zero => simp at e2
     | succ j => have := q3 i j p k q k' (by simpa using e1) (by simpa using e2) e3; omega
  ·rename_i p k l len esz ver st
   obtain ⟨rfl, hsc, ⟨st', hg⟩, rfl, hne, h⟩ := h
   obtain ⟨hd', q1, q2, q3⟩ := sel_build hs h
   have hp : p < c.hd.length := by rw [hs.len]; exact (List.getElem?_eq_some_iff.1 hg).1
   obtain ⟨k0, h0, e0⟩ : ∃ k h, c.hd[p]? = some (k, h) := ⟨_, _, List.getElem?_eq_getElem hp⟩
   have hob := hs.obj p _ _ _ hg e0
   have hk := hob.1
   subst hk
   have mem_ne : ∀ (j q k' : Nat), sel[j]? = some (.dy q k') → q ≠ p := fun j q k' e => hne _ (List.mem_of_getElem? e)
   refine ⟨(0, h0) :: hd', by simp [q1], fun j ob k h e1 e2 => ?_, fun i j p' k q k' e1 e2 e3 => ?_⟩
   ·cases j with
    | zero =>
     simp only [List.getElem?_cons_zero, Option.some.injEq] at e1 e2
     cases e1; cases e2
     refine ⟨rfl, fun c' hc' => ?_, ⟨_, _, _, rfl, hsc⟩, .inr ⟨p, _, rfl, e0, fun o ho => ⟨p, _, _, _, hg, rfl, e0, ho⟩, _, hg, rfl⟩⟩
     obtain ⟨_, r1, r2⟩ := hob
     refine ⟨rfl, r1, ?_⟩
     rcases r2 with r2 | ⟨o, v, room, t, clen, l', r2, r3, r4, r5, r6, r7⟩
     ·exact .inl r2
     ·exact .inr ⟨o, v, room, t, clen, l', r2, by rw [hc']; exact r3, r4, r5, scals_any hsc r6, r7⟩
    | succ j => exact q2 j ob k h (by simpa using e1) (by simpa using e2)
   ·cases i with
    | zero =>
     simp only [List.getElem?_cons_zero, Option.some.injEq] at e1
     cases e1
     cases j with
     | zero => rfl
     | succ j => exact absurd e3.symm (mem_ne j q k' (by simpa using e2))
    | succ i => cases j with
     | zero =>
      simp only [List.getElem?_cons_zero, Option.some.injEq] at e2
      cases e2
      exact absurd e3 (mem_ne i p' k (by simpa using e1))
     | succ j => have := q3 i j p' k q k' (by simpa using e1) (by simpa using e2) e3; omega
mutual
theorem sub_AR {c c' : Cx} {sel : List LV} (hsel : ∀ (j : Nat) (v : LV) (a : AV), sel[j]? = some v → AR c v a → AR c' (.dy j 0) a) (v : LV) (a : AV) (hsim : v.sim sel.length = true) (h : AR c (subV sel v) a) : AR c' v a := by
 cases v with
 | dy j k =>
  simp only [LV.sim, Bool.and_eq_true, beq_iff_eq, decide_eq_true_eq] at hsim
  obtain ⟨rfl, hjl⟩ := hsim
  refine hsel j _ a (List.getElem?_eq_getElem hjl) ?_
  unfold subV at h
  rwa [List.getD_eq_getElem?_getD, List.getElem?_eq_getElem hjl] at h
 | agg l =>
  simp only [LV.sim] at hsim
  simp only [subV] at h
  cases h with
  | agg h => exact .agg (sub_ARs hsel l _ hsim h)
 | tup l =>
  simp only [LV.sim] at hsim
  simp only [subV] at h
  cases h with
  | tup h => exact .tup (sub_ARs hsel l _ hsim h)
 | _ => first | (simp only [LV.sim] at hsim; cases hsim; done) | (simp only [subV] at h; cases h; constructor)
termination_by SizeOf.sizeOf v
theorem sub_ARs {c c' : Cx} {sel : List LV} (hsel : ∀ (j : Nat) (v : LV) (a : AV), sel[j]? = some v → AR c v a → AR c' (.dy j 0) a) (l : List LV) (r : List AV) (hsim : sims sel.length l = true) (h : ARs c (subVs sel l) r) : ARs c' l r := by
 cases l with
 | nil => simp only [subVs] at h; cases h; exact .nil
 | cons v l =>
  simp only [sims, Bool.and_eq_true] at hsim
  simp only [subVs] at h
  cases h with
  | cons e es => exact .cons (sub_AR hsel v _ hsim.1 e) (sub_ARs hsel l _ hsim.2 es)
termination_by SizeOf.sizeOf l
end
theorem FnS.mk {f : Nat} {args : List LV} {v0 : LV} {G0 : LHeap} (hsim : v0.sim G0.length = true) (h : CallL P (.fn f) args [] fun v G => ∃ sel, v = subV sel v0 ∧ sel.length = G0.length ∧ SelR G sel G0) (hG : ∀ (j : Nat) (ob : LObj), G0[j]? = some ob → ∃ l len esz, ob = .dyn l len esz 0 0 ∧ l.all LV.scal = true) : FnS P f args v0 G0 := by
 refine ⟨h.1, hsim, hG, fun Fz H args1 hfz ha => ?_⟩
 obtain ⟨m, v1, H', q1, c1, v, G, rfl, q3, q4, q5, sel, rfl, hlen, hr⟩ := h.2 ⟨[], Fz, H⟩ (.fn f) args1 (.empty hfz) rfl ha
 obtain ⟨hd', r1, r2, r3⟩ := sel_build q3 hr
 have hd_of : ∀ (j : Nat) (ob : LObj), G0[j]? = some ob → ∃ k h, hd'[j]? = some (k, h) := fun j ob e => ⟨_, _, List.getElem?_eq_getElem (by rw [r1]; exact (List.getElem?_eq_some_iff.1 e).1)⟩
 have hown : ∀ o, Own ⟨hd', Fz, c1.H⟩ G0 o → Own c1 G o := by
  rintro o ⟨j, ob, k, h, e1, e2, e3, e4⟩
  obtain ⟨_, _, _, s4⟩ := r2 j ob k h e1 e3
  rcases s4 with ⟨_, s4⟩ | ⟨p, k', _, _, s6, _⟩
  ·rw [s4] at e4; cases e4
  ·exact s6 o e4
 have hnew : ∀ o, Own ⟨hd', Fz, c1.H⟩ G0 o → H.next ≤ o := fun o ho => by
  rcases q4.new o (hown o ho) with ⟨p, _, _, _, e, _⟩ | h
  ·simp at e
  ·exact h
 have hno : ∀ o, ¬ Own ⟨[], Fz, H⟩ [] o := fun o ⟨p, _, _, _, e, _⟩ => by simp at e
 have hs' : HSim ⟨hd', Fz, c1.H⟩ G0 := by
  refine ⟨r1, fun o ho => Nat.lt_of_lt_of_le (hfz o ho) q4.nx, fun o ho => q3.lt o (hown o ho), fun o ho hf => ?_, fun j ob k h e1 e2 => ?_, fun i j ob ob' k h k' h' o e1 e2 e3 e4 e5 e6 e7 e8 => ?_⟩
  ·have := hnew o ho; have := hfz o hf; omega
  ·obtain ⟨s1, s2, _⟩ := r2 j ob k h e1 e2
   rw [s1]; exact s2 _ rfl
  ·obtain ⟨_, _, _, s4⟩ := r2 i ob k h e1 e5
   obtain ⟨_, _, _, t4⟩ := r2 j ob' k' h' e2 e6
   rcases s4 with ⟨_, s4⟩ | ⟨p, kp, s5, s6, _, o1, g1, g2⟩
   ·rw [s4] at e7; cases e7
   ·rcases t4 with ⟨_, t4⟩ | ⟨q, kq, t5, t6, _, o2, g3, g4⟩
    ·rw [t4] at e8; cases e8
    ·refine r3 i j p kp q kq s5 t5 ?_
     exact q3.excl p q o1 o2 kp h kq h' o g1 g3 g2 g4 s6 t6 e7 e8
 refine ⟨m, v1, hd', c1.H, q1, hs', ?_, q4.nx, fun o ho => q4.frame o ho (hno o), hnew⟩
 refine sub_AR (c := c1) (fun j v a e1 e2 => ?_) v0 v1 (by rw [hlen]; exact hsim) q5
 have hj : j < G0.length := by rw [← hlen]; exact (List.getElem?_eq_some_iff.1 e1).1
 obtain ⟨k, h, e3⟩ := hd_of j _ (List.getElem?_eq_getElem hj)
 obtain ⟨rfl, _, _, s4⟩ := r2 j _ k h (List.getElem?_eq_getElem hj) e3
 rcases s4 with ⟨s4, s5⟩ | ⟨p, k', s4, s5, _⟩
 ·rw [e1] at s4; cases s4; cases e2
  exact .dy e3 (Nat.le_refl _) (fun _ => s5.symm) rfl
 ·rw [e1] at s4; cases s4
  cases e2 with
  | dy f1 f2 f3 f4 =>
   rw [s5] at f1
   cases f1
   exact .dy e3 (Nat.le_refl _) (fun _ => f3 rfl) f4
end fns
end Go.Sv
namespace Go.Sv
noncomputable def tgtL (ρ : LEnv) (G : LHeap) : LOp → Option (Option Nat)
 | .load1 x | .loadN _ x => match x.ev ρ with
  | .ptr p _ => some (some p)
  | .dptr p k _ => match G[p]? with
   | some (.dyn _ _ _ ver _) => if k = ver then some (some p) else none
   | _ => none
  | .cptr _ _ => some none
  | _ => none
 | .cvStr x => match x.ev ρ with
  | .nilSl => some none
  | .lst _ _ _ => some none
  | .dy p k => match G[p]? with
   | some (.dyn _ _ _ ver _) => if k = ver then some (some p) else none
   | _ => none
  | _ => none
 | .lookup _ _ _ x _ => match x.ev ρ with
  | .nilMap => some none
  | .map p => some (some p)
  | _ => none
 | _ => none
def keptL (G G' : LHeap) (p : Nat) : Prop := match G[p]?, G'[p]? with
 | some a, some b => a.stp = true ∧ a.st = b.st
 | _, _ => False
noncomputable def ckC (ρ : LEnv) (G G' : LHeap) (x : LI × Bool) : Prop := match x.2 with
 | false => match tgtL ρ G x.1.o with
  | some none => True
  | some (some p) => keptL G G' p
  | none => False
 | true => match x.1.d with
  | none => False
  | some d => match lk ρ d with
   | .ptr p _ => keptL G G' p
   | .dy p k => (match G[p]? with
    | some (.dyn _ _ _ ver _) => k = ver
    | _ => False) ∧ keptL G G' p
   | _ => False
noncomputable def ckL (ρ : LEnv) (G G' : LHeap) (x : LI × Bool) : Prop := match x.1.g with
 | none => ckC ρ G G' x
 | some (t, w) => match lk ρ t with
  | .bool b => b = w → ckC ρ G G' x
  | _ => ckC ρ G G' x
noncomputable def cksL (ρ : LEnv) (G G' : LHeap) : List (LI × Bool) → Prop
 | [] => True
 | x :: l => ckL ρ G G' x ∧ cksL ρ G G' l
noncomputable def DrL (P : Program) : List (LI × List (LI × Bool)) → LEnv → LHeap → (LEnv → LHeap → Prop) → Prop
 | [], ρ, G, K => K ρ G
 | (x, cs) :: l, ρ, G, K => ItL P x ρ G fun ρ' G' => cksL ρ G G' cs ∧ DrL P l ρ' G' K
section al
variable {P : Program}
theorem reId_self {v : AV} {id n : Nat} (h : idOf v = some id) : reId id (reId n v) = v := by
 cases v <;> first | (cases h; done) | (cases h; rfl)
theorem newVar_any {H H1 : Heap} {l : List AV} {v : AV} (h : newVarA H l = .val v H1) : ∃ ob, H1 = H.push ob ∧ idOf v = some H.next ∧ ∀ H2, newVarA H2 l = .val (reId H2.next v) (H2.push ob) := by
 unfold newVarA newObj at h
 cases h
 exact ⟨_, rfl, rfl, fun H2 => rfl⟩
theorem newSl_any {H H1 : Heap} {l : List AV} {a b : Nat} {r : Option Nat} {v : AV} (h : (match newObj H l with
  | some (o, H') => OR.val (.sl o 0 0 a b r) H'
  | none => .no) = .val v H1) : ∃ ob, H1 = H.push ob ∧ idOf v = some H.next ∧ ∀ H2, (match newObj H2 l with
  | some (o, H') => OR.val (.sl o 0 0 a b r) H'
  | none => .no) = .val (reId H2.next v) (H2.push ob) := by
 unfold newObj at h
 cases h
 exact ⟨_, rfl, rfl, fun H2 => rfl⟩
theorem al_any {o : Op} (hc : cls P o = .al) {E : Tr AV} {H H1 : Heap} {v : AV} (h : (compOp P o).run E H = .val v H1) : ∃ ob, H1 = H.push ob ∧ idOf v = some H.next ∧ ∀ H2, (compOp P o).run E H2 = .val (reId H2.next v) (H2.push ob) := by
 cases o with
 | alloc t =>
  simp only [compOp] at h ⊢
  split at h
  ·exact newVar_any h
  ·cases h
 | box t x =>
  simp only [compOp, unary1] at h ⊢
  cases hx : (opd x).run E with
  | none => rw [hx] at h; cases h
  | some a =>
   rw [hx] at h
   dsimp only at h ⊢
   cases hl : a.cells with
   | none => rw [hl] at h; cases h
   | some l => rw [hl] at h; exact newVar_any h
 | buildSlice t len parts =>
  simp only [compOp, buildSliceF] at h ⊢
  split at h
  ·split at h
   ·cases h
   ·split at h
    ·cases h
    ·rename_i z hz
     by_cases hb : len * ‹Nat› ≤ 2 ^ 20 ∧ 0 < ‹Nat›
     ·rw [if_pos hb] at h ⊢
      split at h
      ·cases h
      ·dsimp only at h ⊢
       split at h
       ·exact newSl_any h
       ·cases h
     ·rw [if_neg hb] at h; cases h
  ·cases h
 | makeSlice t l c =>
  simp only [compOp, mkSliceF] at h ⊢
  split at h
  ·split at h
   ·cases h
   ·split at h
    ·cases h
    ·split at h
     ·rename_i i hi z hz hb
      simp only [if_pos hb]
      simp only [binary2] at h ⊢
      cases hl : (opd l).run E with
      | none => rw [hl] at h; cases h
      | some a =>
       rw [hl] at h
       cases hcc : (opd c).run E with
       | none => rw [hcc] at h; cases h
       | some b =>
        rw [hcc] at h
        dsimp only at h ⊢
        split at h
        ·rename_i n m
         cases h1 : Nat.ble n m with
         | false => rw [h1] at h; cases h
         | true =>
          rw [h1] at h
          cases h2 : Nat.ble m 1048576 with
          | false => rw [h2] at h; cases h
          | true => rw [h2] at h; exact newSl_any h
        ·cases h
     ·cases h
  ·cases h
 | makeMap t r =>
  have pm : ∀ {v : AV} {H1 : Heap}, pushMap H = .val v H1 → ∃ ob, H1 = H.push ob ∧ idOf v = some H.next ∧ ∀ H2, pushMap H2 = .val (reId H2.next v) (H2.push ob) := fun h => by
   unfold pushMap at h
   cases h
   exact ⟨_, rfl, rfl, fun H2 => rfl⟩
  simp only [compOp, mkMapF] at h ⊢
  split at h
  ·exact pm h
  ·rename_i x
   split at h
   ·simp only [unary1] at h ⊢
    cases hx : (opd x).run E with
    | none => rw [hx] at h; cases h
    | some a =>
     rw [hx] at h
     dsimp only at h ⊢
     split at h
     ·exact pm h
     ·cases h
   ·cases h
 | _ =>
  exfalso
  simp only [cls] at hc
  first
   | (cases hc; done)
   | (split at hc <;> first | (cases hc; done) | (split at hc <;> cases hc))
   | (simp only [clsCall] at hc; split at hc <;> first | (cases hc; done) | (split at hc <;> first | (cases hc; done) | (split at hc <;> cases hc)))
end al
section draw
variable {P : Program} {n : Nat} {ops : Array Oper}
def Valid (P : Program) (ops : Array Oper) (x : DOp) (E : Tr AV) (H : Heap) : Prop := match x.c with
 | .rd => (guardF ops x.o).run E = true → ∃ d v, x.o.dst = some d ∧ getP (pathOf d) E = some v ∧ (compOp P x.o.op).run E H = .val v H
 | .al => (guardF ops x.o).run E = true → ∃ d v id ob, x.o.dst = some d ∧ getP (pathOf d) E = some v ∧ idOf v = some id ∧ H.get id = some ob ∧ ∀ H2, (compOp P x.o.op).run E H2 = .val (reId H2.next v) (H2.push ob)
 | _ => True
theorem valid_recheck {x : DOp} {E : Tr AV} {H : Heap} (h : Valid P ops x E H) (hc : x.c = .rd ∨ x.c = .al) (hd : ownDst ops x = true) : (recheck P ops x).run E H = true := by
 unfold recheck
 cases hdst : x.o.dst with
 | none => unfold ownDst at hd; rw [hdst] at hd; cases hd
 | some d =>
  dsimp only
  cases hg : (guardF ops x.o).run E with
  | false => rfl
  | true =>
   dsimp only
   unfold Valid at h
   rcases hc with hc | hc
   ·rw [hc] at h
    obtain ⟨d', v, h1, h2, h3⟩ := h hg
    rw [hdst] at h1; cases h1
    rw [h2, h3, hc]
    dsimp only
    unfold sameB
    split
    ·rfl
    ·exact @decide_eq_true _ (Classical.propDecidable _) rfl
   ·rw [hc] at h
    obtain ⟨d', v, id, ob, h1, h2, h3, h4, h5⟩ := h hg
    rw [hdst] at h1; cases h1
    rw [h2, h5 H, hc]
    dsimp only
    unfold reMade
    rw [h3]
    dsimp only
    have e1 : sameB (eqAV 30 v (reId id (reId H.next v))) v (reId id (reId H.next v)) = true := by
     unfold sameB
     split
     ·rfl
     ·exact @decide_eq_true _ (Classical.propDecidable _) (reId_self h3).symm
    rw [e1, h4, Heap.get_push_same]
    dsimp only
    unfold sameB
    split
    ·rfl
    ·exact @decide_eq_true _ (Classical.propDecidable _) rfl
theorem memN_spec {t : Nat} : ∀ {l : List Nat}, memN t l = false → t ∉ l
 | [], _ => by simp
 | a :: l, h => by
  simp only [memN] at h
  cases hb : Nat.beq t a with
  | true => rw [hb] at h; cases h
  | false =>
   rw [hb] at h
   intro hm
   rcases List.mem_cons.1 hm with rfl | hm
   ·rw [Nat.beq_refl] at hb; cases hb
   ·exact memN_spec h hm
theorem off_same {x : DOp} {d : Option Nat} (h : offOf ops d x = true) (v : AV) (E : Tr AV) : Same (looks ops x.o) (putE d v E) E ∧ ∀ e, x.o.dst = some e → getP (pathOf e) (putE d v E) = getP (pathOf e) E := by
 cases d with
 | none => exact ⟨fun t _ _ => rfl, fun e _ => rfl⟩
 | some d =>
  unfold offOf at h
  dsimp only at h
  cases hm : memN d (looks ops x.o) with
  | true => rw [hm] at h; cases h
  | false =>
   rw [hm] at h
   dsimp only at h
   refine ⟨fun t ht _ => ?_, fun e he => ?_⟩
   ·show getP (pathOf t) (setP v (pathOf d) E) = _
    rw [get_set_ne (fun q => memN_spec hm (by rw [← q]; exact ht))]
   ·rw [he] at h
    dsimp only at h
    show getP (pathOf e) (setP v (pathOf d) E) = _
    rw [get_set_ne (fun q => by rw [q, Nat.beq_refl] at h; cases h)]
theorem Valid.put {x : DOp} {E : Tr AV} {H : Heap} (h : Valid P ops x E H) {d : Option Nat} (ho : offOf ops d x = true) (v : AV) : Valid P ops x (putE d v E) H := by
 obtain ⟨h1, h2⟩ := off_same ho v E
 have hg := guardF_cong (o := x.o) h1
 have hc : ∀ H2, (compOp P x.o.op).run (putE d v E) H2 = (compOp P x.o.op).run E H2 := fun H2 => compOp_cong' h1
 unfold Valid at h ⊢
 cases hx : x.c with
 | rd =>
  rw [hx] at h
  intro g
  obtain ⟨d', w, k1, k2, k3⟩ := h (by rw [← hg]; exact g)
  exact ⟨d', w, k1, by rw [h2 d' k1]; exact k2, by rw [hc]; exact k3⟩
 | al =>
  rw [hx] at h
  intro g
  obtain ⟨d', w, id, ob, k1, k2, k3, k4, k5⟩ := h (by rw [← hg]; exact g)
  exact ⟨d', w, id, ob, k1, by rw [h2 d' k1]; exact k2, k3, k4, fun H2 => by rw [hc]; exact k5 H2⟩
 | quiet => trivial
 | ch => trivial
theorem guard_res {x : DOp} {r : RI} (hr : resItem P n ops x.o = some r) (E : Tr AV) : (guardF ops x.o).run E = grd r.g E ∧ resOp P x.o.op = some r.o ∧ r.d = x.o.dst := by
 unfold resItem at hr
 split at hr
 ·cases hr
 ·split at hr
  ·cases hr
  ·rename_i ro hro
   split at hr
   ·rename_i hg
    cases hr
    refine ⟨?_, hro, rfl⟩
    unfold guardF; rw [hg]; rfl
   ·rename_i j w hg
    split at hr
    ·cases hr
    ·rename_i t ht
     split at hr
     ·rename_i hl
      cases hr
      refine ⟨?_, hro, rfl⟩
      unfold guardF
      rw [hg]
      dsimp only
      rw [ht]
      dsimp only
      rw [if_pos (Nat.le_of_ble_eq_true hl)]
      rfl
     ·cases hr
theorem Valid.keep {x : DOp} {li : LI} (hr : resItem P n ops x.o = some li.r) (hok : li.o.ok = true) {c c1 : Cx} {G G1 : LHeap} {ρ : LEnv} {E : Tr AV} (hs : HSim c G) (hE : EnvL c ρ E) (st : Step c G c1 G1) (hck : ckL ρ G G1 (li, isAl x))
  (h : Valid P ops x E c.H) : Valid P ops x E c1.H := by
 have hgr : ∀ {p k : Nat} {a : AV} {o : Nat}, keptL G G1 p → c.hd[p]? = some (k, a) → idOf a = some o → c1.H.get o = c.H.get o := by
  intro p k a o hk e1 e2
  unfold keptL at hk
  split at hk
  ·rename_i a1 b1 g1 g2
   exact (st.st p a1 b1 k a o g1 g2 e1 e2 hk.1 hk.2).2.1
  ·exact hk.elim
 obtain ⟨g1, g2, g3⟩ := guard_res hr E
 have hcore : (guardF ops x.o).run E = true → ckC ρ G G1 (li, isAl x) := by
  intro g
  rw [g1] at g
  unfold ckL at hck
  dsimp only at hck
  split at hck
  ·exact hck
  ·rename_i t w hg
   split at hck
   ·rename_i b hb
    refine hck ?_
    have ht := hE t
    rw [hb] at ht
    rw [show li.r.g = li.g from rfl, hg] at g
    unfold grd at g
    dsimp only at g
    cases hq : getP (pathOf t) E with
    | none => rw [hq] at g; cases g
    | some a =>
     rw [hq] at g ht
     cases ht
     cases b <;> cases w <;> first | rfl | cases g
   ·exact hck
 unfold Valid at h ⊢
 cases hx : x.c with
 | quiet => trivial
 | ch => trivial
 | rd =>
  rw [hx] at h
  intro g
  have hc := hcore g
  obtain ⟨d, v, k1, k2, k3⟩ := h g
  refine ⟨d, v, k1, k2, ?_⟩
  rw [resOp_ok (EnvR_ρA E) g2] at k3 ⊢
  have hal : isAl x = false := by unfold isAl; rw [hx]
  unfold ckC at hc
  rw [hal] at hc
  dsimp only at hc
  have ptr1 : ∀ {y : Lx}, y.ok = true → ∀ m, (match y.ev ρ with
    | .ptr p _ => some (some p)
    | .dptr p k _ => (match G[p]? with
     | some (.dyn _ _ _ ver _) => if k = ver then some (some p) else none
     | _ => none)
    | .cptr _ _ => some none
    | _ => (none : Option (Option Nat))) = some m → (∀ p, m = some p → keptL G G1 p) → ∃ o v i, y.r.ev (ρA E) = .ptr o v i ∧ c1.H.get o = c.H.get o := by
   intro y hy m hm hk
   have hv := Lx_ok hE hy
   generalize y.ev ρ = w at hm hv
   generalize y.r.ev (ρA E) = b at hv ⊢
   split at hm
   ·rename_i p i
    cases hm
    cases hv with
    | ptr e => exact ⟨_, _, _, rfl, hgr (hk p rfl) e rfl⟩
   ·rename_i p k i
    split at hm
    ·rename_i l len esz ver stp hg
     by_cases hkv : k = ver
     ·rw [if_pos hkv] at hm
      cases hm
      cases hv with
      | @dptr _ _ _ k' o v j hh e hk' ha =>
       have := (hs.obj p _ _ _ hg e).1
       obtain ⟨_, len', esz', room, rfl⟩ := ha (by omega)
       exact ⟨o, v, j, rfl, hgr (hk p rfl) e rfl⟩
     ·rw [if_neg hkv] at hm; cases hm
    ·cases hm
   ·cases hm
    cases hv with
    | cptr hf hr hl => exact ⟨_, _, _, rfl, (st.le.fz _ hf).2⟩
   ·cases hm
  have fin : ∀ m, tgtL ρ G li.o = some m → (∀ p, m = some p → keptL G G1 p) → evR P (ρA E) c1.H li.r.o = .val v c1.H := by
   intro m hm hk
   have k3' : evR P (ρA E) c.H li.o.r = .val v c.H := k3
   show evR P (ρA E) c1.H li.o.r = _
   unfold tgtL at hm
   split at hm
   ·rename_i y ho
    rw [ho] at k3' hok ⊢
    obtain ⟨o, w, i, q1, q2⟩ := ptr1 hok m hm hk
    simp only [LOp.r, evR] at k3' ⊢
    rw [q1] at k3' ⊢
    dsimp only at k3' ⊢
    rw [readAt_congr q2]
    split at k3'
    ·cases k3'; rfl
    ·cases k3'
   ·rename_i nn y ho
    rw [ho] at k3' hok ⊢
    obtain ⟨o, w, i, q1, q2⟩ := ptr1 hok m hm hk
    simp only [LOp.r, evR] at k3' ⊢
    rw [q1] at k3' ⊢
    dsimp only at k3' ⊢
    rw [readAt_congr q2]
    split at k3'
    ·cases k3'; rfl
    ·cases k3'
   ·rename_i y ho
    rw [ho] at k3' hok ⊢
    have hv := Lx_ok hE hok
    simp only [LOp.r, evR] at k3' ⊢
    generalize y.ev ρ = w at hm hv
    generalize y.r.ev (ρA E) = b at hv k3' ⊢
    have done : (∀ o v i len esz room, b = .sl o v i len esz room → c1.H.get o = c.H.get o) → (match b with
      | .nilSl => OR.val (.str 0 0) c1.H
      | .sl o v i len 1 _ => match readAt c1.H o v i len with
       | some l => match convF.bytesA l with
        | some n => .val (.str len n) c1.H
        | none => .no
       | none => .no
      | _ => .no) = .val v c1.H := by
     intro hh
     split at k3'
     ·cases k3'; rfl
     ·rename_i o v2 i len room
      have e := hh o v2 i len 1 room rfl
      show (match readAt c1.H o v2 i len with
       | some l => match convF.bytesA l with
        | some n => OR.val (.str len n) c1.H
        | none => .no
       | none => .no) = .val v c1.H
      rw [readAt_congr e]
      split at k3'
      ·rename_i hr0
       split at k3'
       ·rename_i hb; cases k3'; rw [hr0]; dsimp only; rw [hb]
       ·cases k3'
      ·cases k3'
     ·cases k3'
    split at hm
    ·cases hv; exact done (fun _ _ _ _ _ _ e => by cases e)
    ·cases hm
     cases hv with
     | lst hf hrm hlen hr hl => exact done (fun _ _ _ _ _ _ e => by cases e; exact (st.le.fz _ hf).2)
     | lstNil => exact done (fun _ _ _ _ _ _ e => by cases e)
     | lstEmp => exact done (fun _ _ _ _ _ _ e => by cases e)
    ·rename_i p k
     split at hm
     ·rename_i l len esz ver stp hg
      by_cases hkv : k = ver
      ·rw [if_pos hkv] at hm
       cases hm
       cases hv with
       | @dy _ _ k' hh _ e hk' ha hsl =>
        have := (hs.obj p _ _ _ hg e).1
        have hha := ha (by omega)
        exact done (fun o v i len esz room eb => hgr (hk p rfl) e (by rw [← hha, eb]; rfl))
      ·rw [if_neg hkv] at hm; cases hm
     ·cases hm
    ·cases hm
   ·rename_i d z okk y ix ho
    rw [ho] at k3' hok ⊢
    simp only [LOp.ok, Bool.and_eq_true] at hok
    have hv := Lx_ok hE hok.1.2
    simp only [LOp.r, evR] at k3' ⊢
    have hm2 : mapOf c1.H (y.r.ev (ρA E)) = mapOf c.H (y.r.ev (ρA E)) := by
     generalize y.ev ρ = w at hm hv
     generalize y.r.ev (ρA E) = b at hv ⊢
     split at hm
     ·cases hv; rfl
     ·rename_i p
      cases hm
      cases hv with
      | map e => unfold mapOf; dsimp only; rw [hgr (hk p rfl) e rfl]
     ·cases hm
    rw [hm2]
    split at k3'
    ·cases k3'
    ·split at k3'
     ·cases k3'; rfl
     ·cases k3'; rfl
     ·cases k3'
   ·cases hm
  split at hc
  ·rename_i hm; exact fin none hm (fun p e => by cases e)
  ·rename_i p hm; exact fin (some p) hm (fun p' e => by cases e; exact hc)
  ·exact hc.elim
 | al =>
  rw [hx] at h
  intro g
  have hc := hcore g
  obtain ⟨d, v, id, ob, k1, k2, k3, k4, k5⟩ := h g
  refine ⟨d, v, id, ob, k1, k2, k3, ?_, k5⟩
  have hal : isAl x = true := by unfold isAl; rw [hx]
  unfold ckC at hc
  rw [hal] at hc
  dsimp only at hc
  have hd : li.d = some d := by rw [← k1]; exact g3
  rw [hd] at hc
  dsimp only at hc
  have hv := hE d
  rw [k2] at hv
  split at hc
  ·rename_i p i hl
   rw [hl] at hv
   cases hv with
   | ptr e => cases k3; rw [hgr hc e rfl]; exact k4
  ·rename_i p k hl
   rw [hl] at hv
   obtain ⟨hc1, hc2⟩ := hc
   split at hc1
   ·rename_i l len esz ver stp hg
    cases hv with
    | @dy _ _ k' hh _ e hk' ha hsl =>
     have := (hs.obj p _ _ _ hg e).1
     have hha : v = hh := ha (by omega)
     rw [hgr hc2 e (by rw [← hha]; exact k3)]; exact k4
   ·exact hc1.elim
  ·exact hc.elim
theorem cks_mem : ∀ {pend : List DOp} {cs : List (LI × Bool)}, resCks P n ops pend = some (rck cs) → ∀ {ρ : LEnv} {G G' : LHeap}, cksL ρ G G' cs → ∀ x ∈ pend, ∃ li, resItem P n ops x.o = some li.r ∧ (li, isAl x) ∈ cs ∧ ckL ρ G G' (li, isAl x)
 | [], _, _, _, _, _, _, x, hx => by simp at hx
 | y :: pend, [], h, _, _, _, _, x, hx => by
  simp only [resCks] at h
  split at h
  ·cases h
  ·split at h <;> cases h
 | y :: pend, (li, b) :: cs, h, ρ, G, G', k, x, hx => by
  simp only [resCks] at h
  split at h
  ·cases h
  ·rename_i r hr
   split at h
   ·cases h
   ·rename_i rs hrs
    simp only [rck, Option.some.injEq, List.cons.injEq, Prod.mk.injEq] at h
    obtain ⟨⟨rfl, rfl⟩, h2⟩ := h
    rw [h2] at hrs
    rcases List.mem_cons.1 hx with rfl | hx
    ·exact ⟨li, hr, by simp, k.1⟩
    ·obtain ⟨li', q1, q2, q3⟩ := cks_mem hrs k.2 x hx
     exact ⟨li', q1, by simp [q2], q3⟩
theorem mem_filterB {α : Type} {f : α → Bool} : ∀ {l : List α} {x : α}, x ∈ filterB f l → x ∈ l
 | [], _, h => h
 | a :: l, x, h => by
  simp only [filterB] at h
  split at h
  ·rcases List.mem_cons.1 h with rfl | h
   ·simp
   ·exact List.mem_cons_of_mem _ (mem_filterB h)
  ·exact List.mem_cons_of_mem _ (mem_filterB h)
theorem allB_all {α : Type} {f : α → Bool} : ∀ {l : List α}, allB f l = true → ∀ x ∈ l, f x = true
 | [], _, x, hx => by simp at hx
 | a :: l, h, x, hx => by
  simp only [allB] at h
  split at h
  ·rename_i ha
   rcases List.mem_cons.1 hx with rfl | hx
   ·exact ha
   ·exact allB_all h x hx
  ·cases h
theorem rechecks_ok {E : Tr AV} {H : Heap} : ∀ {l : List DOp}, (∀ x ∈ l, (recheck P ops x).run E H = true) → (rechecks P ops l).run E H = true
 | [], _ => rfl
 | x :: l, h => by
  simp only [rechecks]
  rw [h x (by simp)]
  exact rechecks_ok (fun y hy => h y (by simp [hy]))
structure Pend (P : Program) (n : Nat) (ops : Array Oper) (x : DOp) : Prop where
 cls : x.c = .rd ∨ x.c = .al
 own : ownDst ops x = true
theorem drawGo_ok : ∀ {l pend : List DOp} {items : List (LI × List (LI × Bool))} {c : Cx} {G : LHeap} {ρ : LEnv} {E : Tr AV} {K : LEnv → LHeap → Prop}, resGo P n ops l pend = some (rdr items) → (items.all fun x => x.1.o.ok && x.2.all (·.1.o.ok)) = true →
  HSim c G → EnvL c ρ E → (∀ x ∈ pend, Pend P n ops x ∧ Valid P ops x E c.H) → DrL P items ρ G K →
  ∃ m E' c' ρ' G', (drawGo P n ops l pend).run (callA P (OL P) m) E c.H = .ok E' c'.H ∧ HSim c' G' ∧ Step c G c' G' ∧ EnvL c' ρ' E' ∧ K ρ' G'
 | [], pend, items, c, G, ρ, E, K, h, _, hs, hE, _, k => by
  cases items with
  | nil => exact ⟨0, E, c, ρ, G, rfl, hs, .refl c G, hE, k⟩
  | cons _ _ => cases h
 | x :: l, pend, items, c, G, ρ, E, K, h, hok, hs, hE, hp, k => by
  simp only [resGo] at h
  split at h
  ·cases h
  ·rename_i hchk
   rw [Bool.and_eq_true] at hchk
   obtain ⟨hoff, hcls⟩ := hchk
   split at h
   ·cases h
   ·rename_i r hr
    have head : ∀ {li : LI} {cs : List (LI × Bool)} {its : List (LI × List (LI × Bool))}, r = li.r → items = (li, cs) :: its →
      ∃ m E1 c1 ρ1 G1 v, (compOper P n ops x.o).run (callA P (OL P) m) E c.H = .ok E1 c1.H ∧ E1 = putE x.o.dst v E ∧ HSim c1 G1 ∧ Step c G c1 G1 ∧ EnvL c1 ρ1 E1 ∧ cksL ρ G G1 cs ∧ DrL P its ρ1 G1 K := by
     intro li cs its e1 e2
     subst e2
     simp only [List.all_cons, Bool.and_eq_true] at hok
     obtain ⟨m, E1, c1, ρ1, G1, q1, q2, q3, q4, q5, q6⟩ := ItL_ok hs hE hok.1.1 (show ItL P li ρ G (fun ρ' G' => cksL ρ G G' cs ∧ DrL P its ρ' G' K) from k)
     rw [← e1, ← compOper_res hr] at q1
     obtain ⟨v, w1, _⟩ := compOper_shape q1
     exact ⟨m, E1, c1, ρ1, G1, v, q1, w1, q2, q3, q4, q5, q6⟩
    have keepE : ∀ {v : AV}, ∀ y ∈ pend, Valid P ops y E c.H → Valid P ops y (putE x.o.dst v E) c.H := fun y hy hv => hv.put (allB_all hoff y hy) _
    have go : ∀ {pend' : List DOp} {its : List (LI × List (LI × Bool))} {m : Nat} {E1 : Tr AV} {c1 : Cx} {ρ1 : LEnv} {G1 : LHeap}, resGo P n ops l pend' = some (rdr its) → (its.all fun x => x.1.o.ok && x.2.all (·.1.o.ok)) = true → HSim c1 G1 → Step c G c1 G1 → EnvL c1 ρ1 E1 →
      (∀ y ∈ pend', Pend P n ops y ∧ Valid P ops y E1 c1.H) → DrL P its ρ1 G1 K → (compOper P n ops x.o).run (callA P (OL P) m) E c.H = .ok E1 c1.H →
      ∃ m' E' c' ρ' G', (compOper P n ops x.o).run (callA P (OL P) m') E c.H = .ok E1 c1.H ∧ (drawGo P n ops l pend').run (callA P (OL P) m') E1 c1.H = .ok E' c'.H ∧ HSim c' G' ∧ Step c G c' G' ∧ EnvL c' ρ' E' ∧ K ρ' G' := by
     intro pend' its m E1 c1 ρ1 G1 a1 a2 a3 a4 a5 a6 a7 a8
     obtain ⟨m2, E', c', ρ', G', b1, b2, b3, b4, b5⟩ := drawGo_ok a1 a2 a3 a5 a6 a7
     exact ⟨max m m2, E', c', ρ', G', compOper_mono (callA_mono (Nat.le_max_left m m2)) a8, drawGo_mono (callA_mono (Nat.le_max_right m m2)) b1, b2, .trans hs a3 a4 b3, b4, b5⟩
    cases hx : x.c with
    | quiet =>
     rw [hx] at h
     dsimp only at h
     split at h
     ·cases h
     ·rename_i rs hrs
      cases items with
      | nil => cases h
      | cons it its =>
       obtain ⟨li, cs⟩ := it
       simp only [rdr, Option.some.injEq, List.cons.injEq, Prod.mk.injEq] at h
       obtain ⟨⟨h1, h2⟩, h3⟩ := h
       obtain ⟨m, E1, c1, ρ1, G1, v, q1, q2, q3, q4, q5, q6, q7⟩ := head h1 rfl
       simp only [List.all_cons, Bool.and_eq_true] at hok
       have hH : c1.H = c.H := by
        have hc : cls P x.o.op = .quiet := by
         rw [hx] at hcls
         cases hq : cls P x.o.op <;> rw [hq] at hcls <;> first | rfl | cases hcls
        exact compOper_reads (cls_spec.1 hc).reads q1
       obtain ⟨m', E', c', ρ', G', b1, b2, b3, b4, b5, b6⟩ := go (pend' := pend) (by rw [← h3]; exact hrs) hok.2 q3 q4 q5 (fun y hy => ⟨(hp y hy).1, by rw [hH, q2]; exact keepE y hy (hp y hy).2⟩) q7 q1
       refine ⟨m', E', c', ρ', G', ?_, b3, b4, b5, b6⟩
       simp only [drawGo]
       rw [hx]
       dsimp only
       rw [b1]
       exact b2
    | rd =>
     rw [hx] at h
     dsimp only at h
     split at h
     ·cases h
     ·rename_i hown
      split at h
      ·cases h
      ·rename_i rs hrs
       cases items with
       | nil => cases h
       | cons it its =>
        obtain ⟨li, cs⟩ := it
        simp only [rdr, Option.some.injEq, List.cons.injEq, Prod.mk.injEq] at h
        obtain ⟨⟨h1, h2⟩, h3⟩ := h
        obtain ⟨m, E1, c1, ρ1, G1, v, q1, q2, q3, q4, q5, q6, q7⟩ := head h1 rfl
        simp only [List.all_cons, Bool.and_eq_true] at hok
        have hc : cls P x.o.op = .rd := by
         rw [hx] at hcls
         cases hq : cls P x.o.op <;> rw [hq] at hcls <;> first | rfl | cases hcls
        have hH : c1.H = c.H := compOper_reads (cls_spec.2 hc) q1
        have hself : Valid P ops x E1 c1.H := by
         unfold Valid
         rw [hx]
         intro g
         unfold ownDst at hown
         cases hdst : x.o.dst with
         | none => rw [hdst] at hown; cases hown
         | some d =>
          rw [hdst] at hown
          have hm : memN d (looks ops x.o) = false := by simpa using hown
          have hsame : Same (looks ops x.o) E1 E := fun t ht _ => by
           rw [q2, hdst]
           show getP (pathOf t) (setP v (pathOf d) E) = _
           rw [get_set_ne (fun q => memN_spec hm (by rw [← q]; exact ht))]
          rw [guardF_cong hsame] at g
          refine ⟨d, v, rfl, by rw [q2, hdst]; exact get_putE _ _ _, ?_⟩
          rw [compOp_cong' hsame, hH]
          have hq := q1
          unfold compOper at hq
          cases hpf : putF n x.o.dst with
          | none => rw [hpf] at hq; cases hq
          | some pf =>
           rw [hpf] at hq
           dsimp only at hq
           rw [g] at hq
           dsimp only at hq
           have hrd := (cls_spec.2 hc) E c.H
           cases hr2 : (compOp P x.o.op).run E c.H with
           | no => rw [hr2] at hq; cases hq
           | call t a => rw [hr2] at hrd; cases hrd
           | val w H2 =>
            rw [hr2] at hq hrd
            cases hrd
            injection hq with e1 e2
            have := congrArg (fun E => getP (pathOf d) E) e1
            rw [q2, (putF_spec hpf).1, hdst, get_putE, get_putE] at this
            cases this
            rfl
        obtain ⟨m', E', c', ρ', G', b1, b2, b3, b4, b5, b6⟩ := go (pend' := x :: pend) (by rw [← h3]; exact hrs) hok.2 q3 q4 q5 (fun y hy => by
         rcases List.mem_cons.1 hy with rfl | hy
         ·exact ⟨⟨.inl hx, hown⟩, hself⟩
         ·exact ⟨(hp y hy).1, by rw [hH, q2]; exact keepE y hy (hp y hy).2⟩) q7 q1
        refine ⟨m', E', c', ρ', G', ?_, b3, b4, b5, b6⟩
        simp only [drawGo]
        rw [hx]
        dsimp only
        rw [b1]
        exact b2
    | al =>
     rw [hx] at h
     dsimp only at h
     split at h
     ·cases h
     ·rename_i hown
      split at h
      ·cases h
      ·rename_i cs' hcs
       split at h
       ·cases h
       ·rename_i rs hrs
        cases items with
        | nil => cases h
        | cons it its =>
         obtain ⟨li, cs⟩ := it
         simp only [rdr, Option.some.injEq, List.cons.injEq, Prod.mk.injEq] at h
         obtain ⟨⟨h1, h2⟩, h3⟩ := h
         obtain ⟨m, E1, c1, ρ1, G1, v, q1, q2, q3, q4, q5, q6, q7⟩ := head h1 rfl
         simp only [List.all_cons, Bool.and_eq_true] at hok
         have hc : cls P x.o.op = .al := by
          rw [hx] at hcls
          cases hq : cls P x.o.op <;> rw [hq] at hcls <;> first | rfl | cases hcls
         rw [h2] at hcs
         have hold : ∀ y ∈ pend, Pend P n ops y ∧ Valid P ops y E1 c1.H := fun y hy => by
          obtain ⟨li', w1, w2, w3⟩ := cks_mem hcs q6 y hy
          have hliok : li'.o.ok = true := List.all_eq_true.1 hok.1.2 _ w2
          refine ⟨(hp y hy).1, ?_⟩
          rw [q2]
          exact ((hp y hy).2.keep w1 hliok hs hE q4 w3).put (allB_all hoff y hy) _
         have hself : Valid P ops x E1 c1.H := by
          unfold Valid
          rw [hx]
          intro g
          unfold ownDst at hown
          cases hdst : x.o.dst with
          | none => rw [hdst] at hown; cases hown
          | some d =>
           rw [hdst] at hown
           have hm : memN d (looks ops x.o) = false := by simpa using hown
           have hsame : Same (looks ops x.o) E1 E := fun t ht _ => by
            rw [q2, hdst]
            show getP (pathOf t) (setP v (pathOf d) E) = _
            rw [get_set_ne (fun q => memN_spec hm (by rw [← q]; exact ht))]
           rw [guardF_cong hsame] at g
           have hq := q1
           unfold compOper at hq
           cases hpf : putF n x.o.dst with
           | none => rw [hpf] at hq; cases hq
           | some pf =>
            rw [hpf] at hq
            dsimp only at hq
            rw [g] at hq
            dsimp only at hq
            cases hr2 : (compOp P x.o.op).run E c.H with
            | no => rw [hr2] at hq; cases hq
            | call t a =>
             exfalso
             have := cls_mk (o := x.o) hc E c.H
             rw [hr2] at this
             exact this
            | val w H2 =>
             rw [hr2] at hq
             injection hq with e1 e2
             have := congrArg (fun E => getP (pathOf d) E) e1
             rw [q2, (putF_spec hpf).1, hdst, get_putE, get_putE] at this
             cases this
             obtain ⟨ob, u1, u2, u3⟩ := al_any hc hr2
             refine ⟨d, _, c.H.next, ob, rfl, by rw [q2, hdst]; exact get_putE _ _ _, u2, ?_, fun H3 => by rw [compOp_cong' hsame]; exact u3 H3⟩
             rw [← e2, u1]
             exact Heap.get_push_same _ _
         obtain ⟨m', E', c', ρ', G', b1, b2, b3, b4, b5, b6⟩ := go (pend' := x :: pend) (by rw [← h3]; exact hrs) hok.2 q3 q4 q5 (fun y hy => by
          rcases List.mem_cons.1 hy with rfl | hy
          ·exact ⟨⟨.inr hx, hown⟩, hself⟩
          ·exact hold y hy) q7 q1
         refine ⟨m', E', c', ρ', G', ?_, b3, b4, b5, b6⟩
         simp only [drawGo]
         rw [hx]
         dsimp only
         rw [b1]
         dsimp only
         rw [rechecks_ok (fun y hy => by
          rcases List.mem_cons.1 hy with rfl | hy
          ·exact valid_recheck hself (.inr hx) hown
          ·exact valid_recheck (hold y hy).2 (hold y hy).1.cls (hold y hy).1.own)]
         exact b2
    | ch =>
     rw [hx] at h
     dsimp only at h
     split at h
     ·cases h
     ·rename_i cs' hcs
      split at h
      ·cases h
      ·rename_i rs hrs
       cases items with
       | nil => cases h
       | cons it its =>
        obtain ⟨li, cs⟩ := it
        simp only [rdr, Option.some.injEq, List.cons.injEq, Prod.mk.injEq] at h
        obtain ⟨⟨h1, h2⟩, h3⟩ := h
        obtain ⟨m, E1, c1, ρ1, G1, v, q1, q2, q3, q4, q5, q6, q7⟩ := head h1 rfl
        simp only [List.all_cons, Bool.and_eq_true] at hok
        rw [h2] at hcs
        have hold : ∀ y ∈ filterB (fun y => !(Nat.testBit x.m y.i)) pend, Pend P n ops y ∧ Valid P ops y E1 c1.H := fun y hy => by
         have hy' := mem_filterB hy
         obtain ⟨li', w1, w2, w3⟩ := cks_mem hcs q6 y hy
         have hliok : li'.o.ok = true := List.all_eq_true.1 hok.1.2 _ w2
         refine ⟨(hp y hy').1, ?_⟩
         rw [q2]
         exact ((hp y hy').2.keep w1 hliok hs hE q4 w3).put (allB_all hoff y hy') _
        obtain ⟨m', E', c', ρ', G', b1, b2, b3, b4, b5, b6⟩ := go (pend' := filterB (fun y => !(Nat.testBit x.m y.i)) pend) (by rw [← h3]; exact hrs) hok.2 q3 q4 q5 hold q7 q1
        refine ⟨m', E', c', ρ', G', ?_, b3, b4, b5, b6⟩
        simp only [drawGo]
        rw [hx]
        dsimp only
        rw [b1]
        dsimp only
        rw [rechecks_ok (fun y hy => valid_recheck (hold y hy).2 (hold y hy).1.cls (hold y hy).1.own)]
        exact b2
end draw
section rule
variable {P : Program} {f n : Nat} {ro : Option Nat} {ρ : LEnv} {D : List Nat} {G : LHeap} {Q : Post}
theorem W_draw {l : List (LI × List (LI × Bool))} (h : DrL P l ρ G fun ρ' G' => Q .normal ρ' D G') : W P f n (.draw l) ro ρ D G Q := by
 intro code c E D1 ro1 h1 h2 h3 h4 h5 h6
 obtain ⟨id, ops, rfl, hr⟩ := inv_draw h1
 unfold resDraw at hr
 dsimp only at hr
 split at hr
 ·rename_i hd
  obtain ⟨m, E', c', ρ', G', q1, q2, q3, q4, q5⟩ := drawGo_ok hr h2 h3 h4 (fun x hx => by simp at hx) h
  refine ⟨m, .normal, E', D1, c', ρ', D, G', ?_, q2, q3, q4, h5.mono q3.le, q5⟩
  simp only [compCode, compDraw]
  rw [hd]
  dsimp only
  rw [q1]
 ·cases hr
end rule
end Go.Sv
namespace Go.Sv
mutual
def LV.dat : LV → Bool
 | .any => true
 | .bool _ | .u _ | .b _ | .i _ | .int _ _ | .str _ | .nilPtr | .nilSl | .nilMap | .nilFn | .nilIf => true
 | .cptr l _ => dats l
 | .lst l _ _ => dats l
 | .fn (.func _) l r => dats l && dats r
 | .iface _ v => v.dat
 | .agg l => dats l
 | .tup l => dats l
 | _ => false
def dats : List LV → Bool
 | [] => true
 | v :: l => v.dat && dats l
end
mutual
theorem AR.dat {c c' : Cx} (hfz : ∀ o, c.Fz o → c'.Fz o ∧ c'.H.get o = c.H.get o) (v : LV) (a : AV) (hd : v.dat = true) (h : AR c v a) : AR c' v a := by
 cases v with
 | cptr l i =>
  simp only [LV.dat] at hd
  cases h with
  | cptr hf hr hl => exact .cptr (hfz _ hf).1 (by rw [readAt_congr (hfz _ hf).2]; exact hr) (ARs.dat hfz l _ hd hl)
 | lst l len esz =>
  simp only [LV.dat] at hd
  cases h with
  | lst hf hrm hlen hr hl => exact .lst (hfz _ hf).1 hrm hlen (by rw [readAt_congr (hfz _ hf).2]; exact hr) (ARs.dat hfz l _ hd hl)
  | lstNil => exact .lstNil
  | lstEmp => exact .lstEmp
 | fn f l r =>
  cases f with
  | func f =>
   simp only [LV.dat, Bool.and_eq_true] at hd
   cases h with
   | fn hl hr => exact .fn (ARs.dat hfz l _ hd.1 hl) (ARs.dat hfz r _ hd.2 hr)
  | _ => simp [LV.dat] at hd
 | iface t w =>
  simp only [LV.dat] at hd
  cases h with
  | iface h => exact .iface (AR.dat hfz w _ hd h)
 | agg l =>
  simp only [LV.dat] at hd
  cases h with
  | agg h => exact .agg (ARs.dat hfz l _ hd h)
 | tup l =>
  simp only [LV.dat] at hd
  cases h with
  | tup h => exact .tup (ARs.dat hfz l _ hd h)
 | any => exact .any a
 | _ => first | (simp only [LV.dat] at hd; cases hd; done) | (cases h; constructor)
termination_by SizeOf.sizeOf v
theorem ARs.dat {c c' : Cx} (hfz : ∀ o, c.Fz o → c'.Fz o ∧ c'.H.get o = c.H.get o) (l : List LV) (r : List AV) (hd : dats l = true) (h : ARs c l r) : ARs c' l r := by
 cases l with
 | nil => cases h; exact .nil
 | cons v l =>
  simp only [dats, Bool.and_eq_true] at hd
  cases h with
  | cons e es => exact .cons (AR.dat hfz v _ hd.1 e) (ARs.dat hfz l _ hd.2 es)
termination_by SizeOf.sizeOf l
end
theorem dats_app : ∀ {l r : List LV}, dats l = true → dats r = true → dats (l ++ r) = true
 | [], _, _, h => h
 | v :: l, r, h, k => by
  simp only [dats, Bool.and_eq_true] at h
  simp only [List.cons_append, dats, Bool.and_eq_true]
  exact ⟨h.1, dats_app h.2 k⟩
theorem dats_map {α : Type} {f : α → LV} (h : ∀ a, (f a).dat = true) : ∀ l : List α, dats (l.map f) = true
 | [] => rfl
 | a :: l => by simp only [List.map_cons, dats, Bool.and_eq_true]; exact ⟨h a, dats_map h l⟩
mutual
def bor (G : LHeap) : LV → LV → Prop
 | .dy p k, d => ∃ l len esz st, d = .lst l len esz ∧ G[p]? = some (.dyn l len esz k st) ∧ dats l = true
 | .vw p k lo len, d => ∃ l len0 esz st, d = .lst ((l.drop (lo * esz)).take (len * esz)) len esz ∧ G[p]? = some (.dyn l len0 esz k st) ∧ lo * esz + len * esz ≤ l.length ∧ dats l = true
 | .nilSl, d => d = .nilSl ∨ ∃ esz, d = .lst [] 0 esz
 | .agg l, d => ∃ r, d = .agg r ∧ bors G l r
 | v, d => d = v ∧ v.dat = true
def bors (G : LHeap) : List LV → List LV → Prop
 | [], r => r = []
 | v :: l, r => ∃ d r', r = d :: r' ∧ bor G v d ∧ bors G l r'
end
section calls
variable {P : Program} {c : Cx} {G : LHeap}
theorem bor_dat {v d : LV} {a : AV} (hb : d = v ∧ v.dat = true) (h : AR c v a) : AR ⟨[], fun o => c.Fz o ∨ Own c G o, c.H⟩ d a := by
 obtain ⟨rfl, hd⟩ := hb
 exact AR.dat (c' := ⟨[], fun o => c.Fz o ∨ Own c G o, c.H⟩) (fun o ho => ⟨Or.inl ho, rfl⟩) d a hd h
mutual
theorem bor_ok (hs : HSim c G) (v d : LV) (a : AV) (hb : bor G v d) (h : AR c v a) : AR ⟨[], fun o => c.Fz o ∨ Own c G o, c.H⟩ d a := by
 cases v with
 | dy p k =>
  simp only [bor] at hb
  obtain ⟨l, len, esz, st, rfl, hg, hd⟩ := hb
  cases h with
  | @dy _ _ k' hh _ e hk ha _ =>
   have hob := hs.obj p _ _ _ hg e
   obtain ⟨r0, r1, r2⟩ := hob
   have hha := ha (by omega)
   rcases r2 with ⟨r2, r3⟩ | ⟨o, v, room, t, clen, l', r2, r3, r4, r5, r6, r7, r8⟩
   ·subst r3
    have : l = [] := List.eq_nil_of_length_eq_zero (by simpa using r1)
    subst this
    rw [hha, r2]; exact .lstNil
   ·have hl' : l'.length = len * esz := by rw [← r6.length]; exact r1
    have hr := readAt_of (i := 0) (n := len * esz) r3 r5 r4 (by omega)
    rw [List.drop_zero, List.take_of_length_le (by omega)] at hr
    rw [hha, r2]
    exact .lst (.inr ⟨p, _, _, _, hg, rfl, e, by rw [r2]; rfl⟩) (fun r e => (r7 r e).2) r1 hr (ARs.dat (c' := ⟨[], fun o => c.Fz o ∨ Own c G o, c.H⟩) (fun o ho => ⟨Or.inl ho, rfl⟩) l l' hd r6)
 | vw p k lo len =>
  simp only [bor] at hb
  obtain ⟨l, len0, esz, st, rfl, hg, hle, hd⟩ := hb
  cases h with
  | @vw _ _ _ _ k' hh _ e hk ha _ _ =>
   have hkv := (hs.obj p _ _ _ hg e).1
   rcases ha (by omega) with ⟨r3, r4⟩ | ⟨o, v, len', esz', room, room', r3, r4, r9⟩
   ·subst r3
    simp only [Nat.zero_mul, List.take_zero]
    rcases r4 with rfl | ⟨rfl, _⟩
    ·exact .lstNil
    ·exact .lstEmp
   ·have e2 := e
    rw [r3] at e2
    obtain ⟨_, q1, q2, q3, t, clen, l', q4, q5, q6, q7, _⟩ := dyn_at hs hg e2
    subst q2 q3
    have hr := readAt_of (i := lo * esz') (n := len * esz') q4 q6 q5 (by omega)
    rw [r4]
    refine .lst (.inr ⟨p, _, _, _, hg, rfl, e, by rw [r3]; rfl⟩) r9 (by simp; omega) hr ?_
    exact ((ARs.dat (c' := ⟨[], fun o => c.Fz o ∨ Own c G o, c.H⟩) (fun o ho => ⟨Or.inl ho, rfl⟩) l l' hd q7).drop _).take _
 | nilSl =>
  simp only [bor] at hb
  cases h
  rcases hb with rfl | ⟨esz, rfl⟩
  ·exact .nilSl
  ·exact .lstNil
 | agg l =>
  simp only [bor] at hb
  obtain ⟨r, rfl, hb⟩ := hb
  cases h with
  | agg h => exact .agg (bors_ok hs l r _ hb h)
 | _ => exact bor_dat (by simpa only [bor] using hb) h
termination_by SizeOf.sizeOf v
theorem bors_ok (hs : HSim c G) (l r : List LV) (as : List AV) (hb : bors G l r) (h : ARs c l as) : ARs ⟨[], fun o => c.Fz o ∨ Own c G o, c.H⟩ r as := by
 cases l with
 | nil => simp only [bors] at hb; subst hb; cases h; exact .nil
 | cons v l =>
  simp only [bors] at hb
  obtain ⟨d, r', rfl, hb1, hb2⟩ := hb
  cases h with
  | cons e es => exact .cons (bor_ok hs v d _ hb1 e) (bors_ok hs l r' _ hb2 es)
termination_by SizeOf.sizeOf l
end
mutual
def shV (n : Nat) : LV → LV
 | .dy j k => .dy (n + j) k
 | .agg l => .agg (shVs n l)
 | .tup l => .tup (shVs n l)
 | v => v
def shVs (n : Nat) : List LV → List LV
 | [] => []
 | v :: l => shV n v :: shVs n l
end
mutual
def frV (G0 : LHeap) : LV → LV
 | .dy j _ => match G0[j]? with
  | some (.dyn l len esz _ _) => .lst l len esz
  | _ => .any
 | .agg l => .agg (frVs G0 l)
 | .tup l => .tup (frVs G0 l)
 | v => v
def frVs (G0 : LHeap) : List LV → List LV
 | [] => []
 | v :: l => frV G0 v :: frVs G0 l
end
mutual
theorem sh_AR {c0 c' : Cx} {n m : Nat} (h : ∀ j a, j < m → AR c0 (.dy j 0) a → AR c' (.dy (n + j) 0) a) (v : LV) (a : AV) (hs : v.sim m = true) (ha : AR c0 v a) : AR c' (shV n v) a := by
 cases v with
 | dy j k =>
  simp only [LV.sim, Bool.and_eq_true, beq_iff_eq, decide_eq_true_eq] at hs
  obtain ⟨rfl, hj⟩ := hs
  exact h j a hj ha
 | agg l =>
  simp only [LV.sim] at hs
  cases ha with
  | agg ha => simp only [shV]; exact .agg (sh_ARs h l _ hs ha)
 | tup l =>
  simp only [LV.sim] at hs
  cases ha with
  | tup ha => simp only [shV]; exact .tup (sh_ARs h l _ hs ha)
 | _ => first | (simp only [LV.sim] at hs; cases hs; done) | (simp only [shV]; cases ha; constructor)
termination_by SizeOf.sizeOf v
theorem sh_ARs {c0 c' : Cx} {n m : Nat} (h : ∀ j a, j < m → AR c0 (.dy j 0) a → AR c' (.dy (n + j) 0) a) (l : List LV) (r : List AV) (hs : sims m l = true) (ha : ARs c0 l r) : ARs c' (shVs n l) r := by
 cases l with
 | nil => cases ha; simp only [shVs]; exact .nil
 | cons v l =>
  simp only [sims, Bool.and_eq_true] at hs
  cases ha with
  | cons e es => simp only [shVs]; exact .cons (sh_AR h v _ hs.1 e) (sh_ARs h l _ hs.2 es)
termination_by SizeOf.sizeOf l
end
mutual
theorem fr_AR {c0 c' : Cx} {G0 : LHeap} (h : ∀ j a, j < G0.length → AR c0 (.dy j 0) a → AR c' (frV G0 (.dy j 0)) a) (v : LV) (a : AV) (hs : v.sim G0.length = true) (ha : AR c0 v a) : AR c' (frV G0 v) a := by
 cases v with
 | dy j k =>
  simp only [LV.sim, Bool.and_eq_true, beq_iff_eq, decide_eq_true_eq] at hs
  obtain ⟨rfl, hj⟩ := hs
  exact h j a hj ha
 | agg l =>
  simp only [LV.sim] at hs
  cases ha with
  | agg ha => simp only [frV]; exact .agg (fr_ARs h l _ hs ha)
 | tup l =>
  simp only [LV.sim] at hs
  cases ha with
  | tup ha => simp only [frV]; exact .tup (fr_ARs h l _ hs ha)
 | _ => first | (simp only [LV.sim] at hs; cases hs; done) | (simp only [frV]; cases ha; constructor)
termination_by SizeOf.sizeOf v
theorem fr_ARs {c0 c' : Cx} {G0 : LHeap} (h : ∀ j a, j < G0.length → AR c0 (.dy j 0) a → AR c' (frV G0 (.dy j 0)) a) (l : List LV) (r : List AV) (hs : sims G0.length l = true) (ha : ARs c0 l r) : ARs c' (frVs G0 l) r := by
 cases l with
 | nil => cases ha; simp only [frVs]; exact .nil
 | cons v l =>
  simp only [sims, Bool.and_eq_true] at hs
  cases ha with
  | cons e es => simp only [frVs]; exact .cons (fr_AR h v _ hs.1 e) (fr_ARs h l _ hs.2 es)
termination_by SizeOf.sizeOf l
end
theorem CallL_F {f : Nat} {args dargs : List LV} {v0 : LV} {G0 : LHeap} {K : LV → LHeap → Prop} (hc : FnS P f dargs v0 G0) (hb : bors G args dargs) (k : K (frV G0 v0) G) : CallL P (.fn f) args G K := by
 obtain ⟨ht, hsim, hG, hrun⟩ := hc
 refine ⟨ht, fun c t1 args1 hs htr ha => ?_⟩
 cases t1 with
 | yield o => exact htr.elim
 | fn g =>
  obtain rfl : f = g := htr
  obtain ⟨m, v1, hd', H', q1, q2, q3, q4, q5, q6⟩ := hrun (fun o => c.Fz o ∨ Own c G o) c.H args1 (fun o ho => ho.elim (hs.fz o) (hs.lt o)) (bors_ok hs args dargs args1 hb ha)
  have hle : CxLe c ⟨c.hd, fun o => c.Fz o ∨ Own ⟨hd', fun o => c.Fz o ∨ Own c G o, H'⟩ G0 o, H'⟩ := ⟨fun p k h e => ⟨k, h, e, Nat.le_refl _, fun _ => rfl, fun _ => rfl⟩, fun o ho => ⟨.inl ho, q5 o (hs.fz o ho)⟩⟩
  have hown : ∀ o, Own ⟨c.hd, fun o => c.Fz o ∨ Own ⟨hd', fun o => c.Fz o ∨ Own c G o, H'⟩ G0 o, H'⟩ G o → Own c G o := fun o ⟨p, ob, k, h, e1, e2, e3, e4⟩ => ⟨p, ob, k, h, e1, e2, e3, e4⟩
  refine ⟨m, v1, H', q1, ⟨c.hd, fun o => c.Fz o ∨ Own ⟨hd', fun o => c.Fz o ∨ Own c G o, H'⟩ G0 o, H'⟩, frV G0 v0, G, rfl, ?_, ?_, ?_, k⟩
  ·refine ⟨hs.len, fun o ho => ?_, fun o ho => Nat.lt_of_lt_of_le (hs.lt o (hown o ho)) q4, fun o ho hf => ?_, fun p ob k h e1 e2 => ?_, fun p q ob ob' k h k' h' o e1 e2 e3 e4 e5 e6 e7 e8 => hs.excl p q ob ob' k h k' h' o e1 e2 e3 e4 e5 e6 e7 e8⟩
   ·rcases ho with ho | ho
    ·exact Nat.lt_of_lt_of_le (hs.fz o ho) q4
    ·exact q2.lt o ho
   ·rcases hf with hf | hf
    ·exact hs.sep o (hown o ho) hf
    ·have := q6 o hf; have := hs.lt o (hown o ho); omega
   ·by_cases hl : ob.live = true
    ·exact (hs.obj p ob k h e1 e2).mono hle (fun o ho => q5 o (hs.lt o ⟨p, ob, k, h, e1, hl, e2, ho⟩))
    ·cases ob <;> first | exact absurd rfl hl | trivial
  ·refine ⟨hle, q4, fun o ho _ => q5 o ho, fun o ho => .inl (hown o ho), fun o ho => ho.elim .inl (fun h => .inr (.inr (q6 o h))), fun p ob ob' e1 e2 => ?_, fun p ob ob' k h o e1 e2 e3 e4 e5 e6 => ?_⟩
   ·rw [e1] at e2; cases e2; exact Nat.le_refl _
   ·rw [e1] at e2; cases e2
    have hl : ob.live = true := by cases ob <;> first | rfl | cases e5
    exact ⟨rfl, q5 o (hs.lt o ⟨p, ob, k, h, e1, hl, e3, e4⟩), rfl⟩
  ·refine fr_AR (fun j a hj h => ?_) v0 v1 hsim q3
   obtain ⟨l, len, esz, hob, hsc⟩ := hG j _ (List.getElem?_eq_getElem hj)
   have hg : G0[j]? = some (.dyn l len esz 0 0) := by rw [List.getElem?_eq_getElem hj, hob]
   simp only [frV]
   rw [hg]
   dsimp only
   cases h with
   | @dy _ _ k' hh _ e hk ha _ =>
    obtain ⟨r0, r1, r2⟩ := q2.obj j _ _ _ hg e
    have hha := ha (by omega)
    rcases r2 with ⟨r2, r3⟩ | ⟨o, v, room, t, clen, l', r2, r3, r4, r5, r6, r7, r8⟩
    ·subst r3
     have : l = [] := List.eq_nil_of_length_eq_zero (by simpa using r1)
     subst this
     rw [hha, r2]; exact .lstNil
    ·have hl' : l'.length = len * esz := by rw [← r6.length]; exact r1
     have hr := readAt_of (i := 0) (n := len * esz) r3 r5 r4 (by omega)
     rw [List.drop_zero, List.take_of_length_le (by omega)] at hr
     rw [hha, r2]
     exact .lst (.inr ⟨j, _, _, _, hg, rfl, e, by rw [r2]; rfl⟩) (fun r e => (r7 r e).2) r1 hr (scals_any hsc r6)
end calls
end Go.Sv
namespace Go.Sv
def setPsL : List Nat → List LV → LEnv → LEnv
 | p :: ps, a :: as, ρ => setPsL ps as ((p, a) :: ρ)
 | _, _, ρ => ρ
theorem setPs_okL {c : Cx} {n : Nat} : ∀ {ps : List Nat} {args : List LV} {args1 : List AV} {ρ : LEnv} {E : Tr AV}, ARs c args args1 → EnvL c ρ E → ps.length = args.length → (∀ p ∈ ps, p < n) → ∃ E1, setPs ps args1 n E = some E1 ∧ EnvL c (setPsL ps args ρ) E1
 | [], [], _, ρ, E, .nil, hE, _, _ => ⟨E, rfl, hE⟩
 | [], _ :: _, _, _, _, _, _, h, _ => by simp at h
 | _ :: _, [], _, _, _, _, _, h, _ => by simp at h
 | p :: ps, a :: as, _, ρ, E, .cons e es, hE, hl, hp => by
  have hb : Nat.blt p n = true := by unfold Nat.blt; exact Nat.ble_eq_true_of_le (hp p (by simp))
  obtain ⟨E1, h1, h2⟩ := setPs_okL (n := n) (ps := ps) es (hE.put e (some p)) (by simpa using hl) (fun q hq => hp q (by simp [hq]))
  refine ⟨E1, ?_, h2⟩
  simp only [setPs]
  rw [hb]
  exact h1
section rules
variable {P : Program} {f n : Nat} {ρ : LEnv} {D : List Nat} {G : LHeap} {Q : Post}
theorem HSim.le_push {c : Cx} (hs : HSim c G) (x : Nat × AV) {H' : Heap} (hfr : ∀ o, o < c.H.next → H'.get o = c.H.get o) : CxLe c ⟨c.hd ++ [x], c.Fz, H'⟩ :=
 ⟨fun p k y e => ⟨k, y, by dsimp only; rw [List.getElem?_append_left (List.getElem?_eq_some_iff.1 e).1]; exact e, Nat.le_refl _, fun _ => rfl, fun _ => rfl⟩, fun o ho => ⟨ho, hfr o (hs.fz o ho)⟩⟩
theorem endLoop_okL {c : Cx} (hs : HSim c G) {p o : Nat} {s : LoopState} {pend : Option Code} {f' n' : Nat} {ρ' : LEnv} {aps : Array Tmp} {ca cb : Code} {d : Nat} (hg : G[p]? = some (.loop s pend f' n' ρ' aps ca cb d)) (e : c.hd[p]? = some (0, .ptr o 0 0)) (hb : s ≠ .busy) :
  ∃ c', endLoopA o c.H = some (pend, c'.H) ∧ HSim c' (G.set p (.loop .exhausted pend f' n' ρ' aps ca cb d)) ∧ Step c G c' (G.set p (.loop .exhausted pend f' n' ρ' aps ca cb d)) := by
 obtain ⟨_, o', od, E, he, q1, q2, q3⟩ := hs.obj p _ _ _ hg e
 injection he with he
 subst he
 obtain ⟨r1, r2, r3⟩ := hs.upd (k' := 0) (x' := .ptr o 0 0) (ob' := .loop .exhausted pend f' n' ρ' aps ca cb d) (H' := c.H.put o (.loop .exhausted pend f' n' E aps ca cb od)) hg rfl e (Nat.le_refl _) (fun o' _ hne => Heap.get_put_ne _ _ (fun q => hne (by rw [q]; rfl)))
  (fun o' e' => by cases e'; exact ⟨.inl rfl, hs.lt o ⟨p, _, _, _, hg, rfl, e, rfl⟩⟩) (Nat.le_refl _) (fun _ => rfl) (fun _ => rfl) (.inr ⟨rfl, Nat.le_refl _⟩)
  (fun hle => ⟨rfl, o, od, E, rfl, hle.fix q1 rfl, Heap.get_put_same _ _ _, q3.mono hle⟩)
 refine ⟨_, ?_, r1, r2⟩
 unfold endLoopA
 rw [q2]
 cases s <;> first | rfl | exact absurd rfl hb
def afterL (l : Nat) (ρ : LEnv) (D : List Nat) (Q : Post) (G2 : LHeap) : Prop := match G2[l]? with
 | some (.loop s pend f' n' ρ' aps ca cb d) => s ≠ .busy ∧ match pend with
  | none => Q .normal ρ D (G2.set l (.loop .exhausted pend f' n' ρ' aps ca cb d))
  | some c => match exOf c with
   | some x => Q x ρ D (G2.set l (.loop .exhausted pend f' n' ρ' aps ca cb d))
   | none => False
 | _ => False
theorem W_range {g : Lx} {ps : List Nat} {a b : LC} {fn' : Nat} {first cap : List LV} (hg : g.ev ρ = .fn (.func fn') first cap)
  (h : ∀ (ca cb : Code) (aps : Array Tmp), resC P n ca = some a.r → resC P n cb = some b.r → aps.toList = ps →
   CallL P (.fn fn') (first ++ [.fn (.yield (G.length + 1)) [] []] ++ cap) (G ++ [.defd true, .loop .ready none f n ρ aps ca cb G.length]) fun _ G2 => afterL (G.length + 1) ρ (G.length :: D) Q G2) :
  W P f n (.rangeF g ps a b) none ρ D G Q := by
 intro code c E D1 ro1 h1 h2 h3 h4 h5 h6
 obtain ⟨cg, aps, ca, cb, rfl, haps, hcg, hca, hcb⟩ := inv_range h1
 simp only [LC.ok, Bool.and_eq_true] at h2
 have hcall := h ca cb aps hca hcb haps
 have hro : ro1 = none := by cases ro1 with
  | none => rfl
  | some _ => exact h6.elim
 subst hro
 have hv := Lx_ok h4 h2.1.1
 have hop := resO_ok hcg (EnvR_ρA E)
 rw [hg] at hv
 generalize g.r.ev (ρA E) = gv at hv hop
 cases hv with
 | @fn _ _ _ first' cap' hl hr =>
  obtain ⟨s1, s2, s3⟩ := h3.push (H' := c.H.push (.defd true)) (x := .ptr c.H.next 0 0) (ob := .defd true) (Nat.le_succ _) (fun o ho => Heap.get_push_ne _ _ ho) (fun o e => by cases e; exact ⟨Nat.le_refl _, Nat.lt_succ_self _⟩) ⟨rfl, c.H.next, rfl, Heap.get_push_same _ _⟩
  have hd1 : (c.hd ++ [(0, AV.ptr c.H.next 0 0)])[G.length]? = some (0, .ptr c.H.next 0 0) := by rw [← h3.len]; exact List.getElem?_concat_length
  generalize hc1 : (⟨c.hd ++ [(0, .ptr c.H.next 0 0)], c.Fz, c.H.push (.defd true)⟩ : Cx) = c1 at s1 s2 s3
  have e1 : c1.H = c.H.push (.defd true) := by rw [← hc1]
  have e2 : c1.hd[G.length]? = some (0, .ptr c.H.next 0 0) := by rw [← hc1]; exact hd1
  obtain ⟨t1, t2, t3⟩ := s1.push (H' := c1.H.push (.loop .ready none f n E aps ca cb c.H.next)) (x := .ptr c1.H.next 0 0) (ob := .loop .ready none f n ρ aps ca cb G.length) (Nat.le_succ _) (fun o ho => Heap.get_push_ne _ _ ho) (fun o e => by cases e; exact ⟨Nat.le_refl _, Nat.lt_succ_self _⟩)
   ⟨rfl, c1.H.next, c.H.next, E, rfl, by rw [List.getElem?_append_left (by rw [s1.len]; simp)]; exact e2, Heap.get_push_same _ _, (h4.mono s3).mono (s1.le_push _ (fun o ho => Heap.get_push_ne _ _ ho))⟩
  have hd2 : (c1.hd ++ [(0, AV.ptr c1.H.next 0 0)])[G.length + 1]? = some (0, .ptr c1.H.next 0 0) := by
   have : c1.hd.length = G.length + 1 := by rw [s1.len]; simp
   rw [← this]; exact List.getElem?_concat_length
  generalize hc2 : (⟨c1.hd ++ [(0, .ptr c1.H.next 0 0)], c1.Fz, c1.H.push (.loop .ready none f n E aps ca cb c.H.next)⟩ : Cx) = c2 at t1 t2 t3
  have e3 : c2.H = c1.H.push (.loop .ready none f n E aps ca cb c.H.next) := by rw [← hc2]
  have e4 : c2.hd[G.length + 1]? = some (0, .ptr c1.H.next 0 0) := by rw [← hc2]; exact hd2
  rw [List.append_assoc] at t1 t2
  have hn1 : c1.H.next = c.H.next + 1 := by rw [e1]; rfl
  have hle2 : CxLe c c2 := s3.trans t3
  obtain ⟨m, v1, H', u1, c3, v, G3, rfl, u3, u4, u5, u6⟩ := hcall.2 c2 (.fn fn') (first' ++ [.fn (.yield c1.H.next) [] []] ++ cap') t1 rfl
   (((hl.mono hle2).append (.cons (.yield e4) .nil)).append (hr.mono hle2))
  have e5 : c3.hd[G.length + 1]? = some (0, .ptr c1.H.next 0 0) := u4.le.fix e4 rfl
  have st3 : Step c G c3 G3 := (Step.trans h3 s1 s2 t2 |>.trans h3 t1) u4
  unfold afterL at u6
  split at u6
  ·rename_i s pend f' n' ρ' aps' ca' cb' d' hg3
   obtain ⟨hbusy, u6⟩ := u6
   obtain ⟨c4, w1, w2, w3⟩ := endLoop_okL u3 hg3 e5 hbusy
   have hle4 : CxLe c c4 := st3.le.trans w3.le
   have hD : DRs c4 (G.length :: D) (c.H.next :: D1) := .cons (w3.le.fix (u4.le.fix (t3.fix e2 rfl) rfl) rfl) (h5.mono hle4)
   have run : ∀ x, (match pend with | none => some Ex.normal | some cd => exOf cd) = some x → (compCode P f n (.rangeFunc cg aps ca cb)).run (callA P (OL P) m) m none E D1 c.H = .ok x E (c.H.next :: D1) c4.H := by
    intro x hx
    simp only [compCode]
    rw [hop]
    dsimp only
    unfold enterLoopA
    dsimp only
    have hcf : callFn P (.fn (.func fn') first' cap') [.fn (.yield (Nat.add c.H.next 1)) [] []] = .call (.fn fn') (first' ++ [.fn (.yield c1.H.next) [] []] ++ cap') := by
     unfold callFn
     dsimp only
     rw [if_pos hcall.1.1, hn1]
    rw [hcf]
    dsimp only
    have hH2 : (c.H.push (.defd true)).push (.loop .ready none f n E aps ca cb c.H.next) = c2.H := by rw [e3, e1]
    rw [hH2, u1]
    dsimp only
    rw [show Nat.add c.H.next 1 = c1.H.next from hn1.symm, w1]
    cases pend with
    | none => cases hx; rfl
    | some cd => dsimp only at hx ⊢; rw [hx]
   cases pend with
   | none => exact ⟨m, .normal, E, c.H.next :: D1, c4, ρ, G.length :: D, _, run .normal rfl, w2, st3.trans h3 u3 w3, h4.mono hle4, hD, u6⟩
   | some cd =>
    dsimp only at u6
    split at u6
    ·rename_i x hx
     exact ⟨m, x, E, c.H.next :: D1, c4, ρ, G.length :: D, _, run x hx, w2, st3.trans h3 u3 w3, h4.mono hle4, hD, u6⟩
    ·exact u6.elim
  ·exact u6.elim
theorem CallL_yield {p : Nat} {aps : Array Tmp} {ca cb : Code} {d : Nat} {a b : LC} {args : List LV} {K : LV → LHeap → Prop} (hg : G[p]? = some (.loop .ready none f n ρ aps ca cb d)) (hca : resC P n ca = some a.r) (hcb : resC P n cb = some b.r) (hoka : a.ok = true) (hokb : b.ok = true)
  {ps : List Nat} (hps : aps.toList = ps) (hlen : ps.length = args.length) (hlt : ∀ q ∈ ps, q < n)
  (h : W P f n a (some p) (setPsL ps args ρ) [] G fun x ρ2 D2 G2 => match x with
   | .normal => D2 = [] ∧ G2[p]? = some (.loop .ready none f n ρ aps ca cb d) ∧ W P f n b (some p) ρ2 [] (G2.set p (.loop .busy none f n ρ aps ca cb d)) fun x _ D3 G3 => D3 = [] ∧ match G3[p]? with
    | some (.loop _ _ f' n' ρ' aps' ca' cb' d') => match x with
     | .normal => K (.bool true) (G3.set p (.loop .ready none f' n' ρ' aps' ca' cb' d'))
     | .ret => K (.bool false) (G3.set p (.loop .done (some .ret) f' n' ρ' aps' ca' cb' d'))
     | .exit id => K (.bool false) (G3.set p (.loop .done (some (.exit id)) f' n' ρ' aps' ca' cb' d'))
    | _ => False
   | _ => False) : CallL P (.yield p) args G K := by
 refine ⟨trivial, fun c t1 args1 hs ht ha => ?_⟩
 cases t1 with
 | fn g => exact ht.elim
 | yield o =>
  have e : c.hd[p]? = some (0, .ptr o 0 0) := ht
  obtain ⟨_, o', od, E, he, q1, q2, q3⟩ := hs.obj p _ _ _ hg e
  injection he with he
  subst he
  obtain ⟨E1, r1, r2⟩ := setPs_okL (n := n) ha q3 hlen hlt
  rw [← hps] at r1
  obtain ⟨m, x, E2, D2, c2, ρ2, D2', G2, s1, s2, s3, s4, s5, s6⟩ := h ca c E1 [] (some o) hca hoka hs r2 .nil e
  cases x with
  | exit id => exact s6.elim
  | ret => exact s6.elim
  | normal =>
   obtain ⟨rfl, hg2, s6⟩ := s6
   cases s5
   have e2 := s3.le.fix e rfl
   obtain ⟨_, o', od2, Eo, he, t1, t2, t3⟩ := s2.obj p _ _ _ hg2 e2
   injection he with he
   subst he
   obtain ⟨v1, v2, v3⟩ := s2.upd (k' := 0) (x' := .ptr o 0 0) (ob' := .loop .busy none f n ρ aps ca cb d) (H' := c2.H.put o (.loop .busy none f n Eo aps ca cb od2)) hg2 rfl e2 (Nat.le_refl _) (fun o' _ hne => Heap.get_put_ne _ _ (fun q => hne (by rw [q]; rfl)))
    (fun o' e' => by cases e'; exact ⟨.inl rfl, s2.lt o ⟨p, _, _, _, hg2, rfl, e2, rfl⟩⟩) (Nat.le_refl _) (fun _ => rfl) (fun _ => rfl) (.inr ⟨rfl, Nat.le_refl _⟩)
    (fun hle => ⟨rfl, o, od2, Eo, rfl, hle.fix t1 rfl, Heap.get_put_same _ _ _, t3.mono hle⟩)
   obtain ⟨m3, x, E3, D3, c4, ρ3, D3', G3, w1, w2, w3, w4, w5, rfl, w7⟩ := s6 cb _ E2 [] (some o) hcb hokb v1 (s4.mono v3) .nil (v3.fix e2 rfl)
   cases w5
   have e4 := w3.le.fix (v3.fix e2 rfl) rfl
   have hbeg : beginA o c2.H = some (c2.H.put o (.loop .busy none f n Eo aps ca cb od2)) := by unfold beginA; rw [t2]
   split at w7
   ·rename_i s' pd f' n' ρ' aps' ca' cb' d' hg3
    obtain ⟨_, o', od3, Ee, he, x1, x2, x3⟩ := w2.obj p _ _ _ hg3 e4
    injection he with he
    subst he
    have fin : ∀ (st' : LoopState) (pd' : Option Code) (bv : Bool), endRoundA o x c4.H = .ok (.bool bv) (c4.H.put o (.loop st' pd' f' n' Ee aps' ca' cb' od3)) → K (.bool bv) (G3.set p (.loop st' pd' f' n' ρ' aps' ca' cb' d')) →
      ∃ m v1 H', callA P (OL P) m (.yield o) args1 c.H = .ok v1 H' ∧ ∃ c' v G', c'.H = H' ∧ HSim c' G' ∧ Step c G c' G' ∧ AR c' v v1 ∧ K v G' := by
     intro st' pd' bv hend hk
     obtain ⟨y1, y2, y3⟩ := w2.upd (k' := 0) (x' := .ptr o 0 0) (ob' := .loop st' pd' f' n' ρ' aps' ca' cb' d') (H' := c4.H.put o (.loop st' pd' f' n' Ee aps' ca' cb' od3)) hg3 rfl e4 (Nat.le_refl _) (fun o' _ hne => Heap.get_put_ne _ _ (fun q => hne (by rw [q]; rfl)))
      (fun o' e' => by cases e'; exact ⟨.inl rfl, w2.lt o ⟨p, _, _, _, hg3, rfl, e4, rfl⟩⟩) (Nat.le_refl _) (fun _ => rfl) (fun _ => rfl) (.inr ⟨rfl, Nat.le_refl _⟩)
      (fun hle => ⟨rfl, o, od3, Ee, rfl, hle.fix x1 rfl, Heap.get_put_same _ _ _, x3.mono hle⟩)
     refine ⟨max m m3 + 1, .bool bv, _, ?_, _, .bool bv, _, rfl, y1, .trans hs w2 (.trans hs v1 (.trans hs s2 s3 v2) w3) y2, .bool bv, hk⟩
     unfold callA
     dsimp only
     rw [q2]
     dsimp only
     rw [r1]
     dsimp only
     rw [compCode_mono (callA_mono (Nat.le_max_left m m3)) (Nat.le_max_left m m3) _ s1]
     dsimp only
     rw [hbeg]
     dsimp only
     rw [compCode_mono (callA_mono (Nat.le_max_right m m3)) (Nat.le_max_right m m3) _ w1]
     exact hend
    have hend : ∀ y, endRoundA o y c4.H = match y with
      | .normal => .ok (.bool true) (c4.H.put o (.loop .ready none f' n' Ee aps' ca' cb' od3))
      | .ret => .ok (.bool false) (c4.H.put o (.loop .done (some .ret) f' n' Ee aps' ca' cb' od3))
      | .exit id => .ok (.bool false) (c4.H.put o (.loop .done (some (.exit id)) f' n' Ee aps' ca' cb' od3)) := fun y => by
     unfold endRoundA
     rw [x2]
     cases y <;> rfl
    cases x with
    | normal => exact fin _ _ _ (hend .normal) w7
    | ret => exact fin _ _ _ (hend .ret) w7
    | exit id => exact fin _ _ _ (hend (.exit id)) w7
   ·exact w7.elim
end rules
end Go.Sv
namespace Go.Sv
noncomputable def wp (P : Program) (f n : Nat) (ro : Option Nat) : LC → LEnv → List Nat → LHeap → Post → Prop
 | .skip, ρ, D, G, Q => Q .normal ρ D G
 | .ops l, ρ, D, G, Q => OpsL P l ρ G fun ρ' G' => Q .normal ρ' D G'
 | .seq a b, ρ, D, G, Q => wp P f n ro a ρ D G fun x ρ' D' G' => match x with
  | .normal => wp P f n ro b ρ' D' G' Q
  | x => Q x ρ' D' G'
 | .cond x a b, ρ, D, G, Q => brV (x.ev ρ) (wp P f n ro a ρ D G Q) (wp P f n ro b ρ D G Q)
 | .block id c, ρ, D, G, Q => wp P f n ro c ρ D G fun x ρ' D' G' => match x with
  | .exit i => if i = id then Q .normal ρ' D' G' else Q (.exit i) ρ' D' G'
  | x => Q x ρ' D' G'
 | .draw l, ρ, D, G, Q => DrL P l ρ G fun ρ' G' => Q .normal ρ' D G'
 | .exit id, ρ, D, G, Q => Q (.exit id) ρ D G
 | .scope c, ρ, D, G, Q => wp P f n ro c ρ D G Q
 | .label, ρ, D, G, Q => Q .normal ρ D G
 | .ret, ρ, D, G, Q => Q .ret ρ D G
 | .stuck, _, _, _, _ => False
 | s, ρ, D, G, Q => W P f n s ro ρ D G Q
noncomputable def seqQ (P : Program) (f n : Nat) (ro : Option Nat) (b : LC) (Q : Post) : Post := fun x ρ' D' G' => match x with
  | .normal => wp P f n ro b ρ' D' G' Q
  | x => Q x ρ' D' G'
def blkQ (id : Nat) (Q : Post) : Post := fun x ρ' D' G' => match x with
  | .exit i => if i = id then Q .normal ρ' D' G' else Q (.exit i) ρ' D' G'
  | x => Q x ρ' D' G'
def nxQ (Nx : LEnv → List Nat → LHeap → Prop) (Q : Post) : Post := fun x ρ' D' G' => match x with
  | .normal => Nx ρ' D' G'
  | x => Q x ρ' D' G'
def endK (K : LV → LHeap → Prop) (G : LHeap) : List LV → Prop := fun vs => K (oneL vs) G
noncomputable def takK (ρ : LEnv) (rs : List RRes) (K : LV → LHeap → Prop) : LHeap → Prop := fun G2 => resL ρ G2 rs (endK K G2)
noncomputable def endQ (rs : List RRes) (K : LV → LHeap → Prop) : Post := fun x ρ D G' => match x with
   | .exit _ => False
   | _ => takeL D G' (takK ρ rs K)
def norQ (Q : Post) (D : List Nat) : LEnv → LHeap → Prop := fun ρ G => Q .normal ρ D G
noncomputable def opsK (P : Program) (l : List LI) (K : LEnv → LHeap → Prop) : LEnv → LHeap → Prop := fun ρ' G' => OpsL P l ρ' G' K
def itK (ρ : LEnv) (d : Option Nat) (K : LEnv → LHeap → Prop) : LV → LHeap → Prop := fun v G' => K (updL ρ d v) G'
def atG (K : LV → LHeap → Prop) (G : LHeap) : LV → Prop := fun v => K v G
noncomputable def drK (P : Program) (cs : List (LI × Bool)) (l : List (LI × List (LI × Bool))) (ρ : LEnv) (G : LHeap) (K : LEnv → LHeap → Prop) : LEnv → LHeap → Prop := fun ρ' G' => cksL ρ G G' cs ∧ DrL P l ρ' G' K
noncomputable def tmpK (ρ : LEnv) (t : Nat) (K : List LV → Prop) : List LV → Prop := fun vs => K (lk ρ t :: vs)
def takM (o : Option LObj) (A : Prop) : Prop := match o with
 | some (.defd true) => A
 | _ => False
theorem wp_W {P : Program} {f n : Nat} {ro : Option Nat} : ∀ (s : LC) {ρ : LEnv} {D : List Nat} {G : LHeap} {Q : Post}, wp P f n ro s ρ D G Q → W P f n s ro ρ D G Q
 | .skip, _, _, _, _, h => W_skip h
 | .ops l, _, _, _, _, h => W_ops h
 | .seq a b, _, _, _, _, h => W_seq ((wp_W a h).post fun x ρ D G k => by
  cases x with
  | normal => exact wp_W b k
  | exit i => exact k
  | ret => exact k)
 | .cond x a b, ρ, _, _, _, h => by
  simp only [wp] at h
  obtain ⟨t, hx, h⟩ := brV_bool h
  exact W_cond hx (fun e => wp_W a (h.1 e)) (fun e => wp_W b (h.2 e))
 | .block id c, _, _, _, _, h => W_block (wp_W c h)
 | .exit id, _, _, _, _, h => W_exit h
 | .scope c, _, _, _, _, h => W_scope (wp_W c h)
 | .label, _, _, _, _, h => W_label h
 | .ret, _, _, _, _, h => W_ret h
 | .stuck, _, _, _, _, h => h.elim
 | .draw l, _, _, _, _, h => W_draw h
 | .loop c, _, _, _, _, h => h
 | .rangeF g ps a b, _, _, _, _, h => h
section rules
variable {P : Program}
theorem call_body {f : Nat} {s : LC} {n : Nat} {rs : List RRes} (hf : resFn P f = some ⟨n, s.r, rs⟩) (hok : s.ok = true) {args : List LV} {G : LHeap} {K : LV → LHeap → Prop} (hn : args.length ≤ n)
  (h : wp P f n none s (argsL args 0) [] G (endQ rs K)) : CallL P (.fn f) args G K :=
 CallL_body hf hok hn ((wp_W s h).post fun x ρ D G' k => by
  cases x with
  | normal => exact ⟨trivial, k⟩
  | exit i => exact k.elim
  | ret => exact ⟨trivial, k⟩)
theorem FnS.val {f : Nat} {args : List LV} {v0 : LV} (hsim : v0.sim 0 = true) (h : CallL P (.fn f) args [] fun v _ => v = subV [] v0) : FnS P f args v0 [] :=
 .mk hsim (h.mono fun v G e => ⟨[], e, rfl, trivial⟩) (fun j ob e => by simp at e)
theorem loop_nx {f n : Nat} {ro : Option Nat} {ρ : LEnv} {D : List Nat} {G : LHeap} {Q : Post} {s : LC} (I : LEnv → List Nat → LHeap → Nat → Prop) {N : Nat} (h0 : I ρ D G N)
  (h : ∀ (N : Nat) (ρ : LEnv) (D : List Nat) (G : LHeap), I ρ D G N → ∀ Nx : LEnv → List Nat → LHeap → Prop, (∀ (ρ' : LEnv) (D' : List Nat) (G' : LHeap), (∃ N', N' < N ∧ I ρ' D' G' N') → Nx ρ' D' G') → wp P f n ro s ρ D G (nxQ Nx Q)) : W P f n (.loop s) ro ρ D G Q :=
 W_loop I h0 fun N ρ D G k => wp_W s (h N ρ D G k (fun ρ' D' G' => ∃ N', N' < N ∧ I ρ' D' G' N') fun _ _ _ e => e)
end rules
section congr
variable {P : Program} {ρ ρ' : LEnv} {G G' : LHeap} {x x' y y' : LV} {K : LV → LHeap → Prop} {Kv : LV → Prop}
@[congr] theorem W_congr {f n : Nat} {s : LC} {ro : Option Nat} {D : List Nat} {Q : Post} (h1 : ρ = ρ') (h2 : G = G') : W P f n s ro ρ D G Q = W P f n s ro ρ' D G' Q := by rw [h1, h2]
@[congr] theorem wp_congr {f n : Nat} {s : LC} {ro : Option Nat} {D : List Nat} {Q : Post} (h1 : ρ = ρ') (h2 : G = G') : wp P f n ro s ρ D G Q = wp P f n ro s ρ' D G' Q := by rw [h1, h2]
@[congr] theorem CallL_congr {t : LTgt} {a a' : List LV} (h1 : a = a') (h2 : G = G') : CallL P t a G K = CallL P t a' G' K := by rw [h1, h2]
@[congr] theorem binL_congr {op : BinOp} {g : Bool} {t : TypeId} (h1 : x = x') (h2 : y = y') : binL P op g t x y Kv = binL P op g t x' y' Kv := by rw [h1, h2]
@[congr] theorem unL_congr {op : UnOp} (h1 : x = x') : unL op x Kv = unL op x' Kv := by rw [h1]
@[congr] theorem readL_congr {n : Nat} {K : List LV → Prop} (h1 : G = G') (h2 : x = x') : readL G x n K = readL G' x' n K := by rw [h1, h2]
@[congr] theorem read1_congr (h1 : G = G') (h2 : x = x') : read1 G x Kv = read1 G' x' Kv := by rw [h1, h2]
@[congr] theorem nthL_congr {l l' : List LV} {i i' : Nat} (h1 : l = l') (h2 : i = i') : nthL l i Kv = nthL l' i' Kv := by rw [h1, h2]
@[congr] theorem writeL_congr {r r' : List LV} {K : LHeap → Prop} (h1 : G = G') (h2 : x = x') (h3 : r = r') : writeL G x r K = writeL G' x' r' K := by rw [h1, h2, h3]
@[congr] theorem rowL_congr {n : Nat} {K : Nat → List LV → Prop} (h1 : G = G') (h2 : x = x') : rowL G n x K = rowL G' n x' K := by rw [h1, h2]
@[congr] theorem lenL_congr {K : Nat → Prop} (h1 : G = G') (h2 : x = x') : lenL G x K = lenL G' x' K := by rw [h1, h2]
@[congr] theorem appL_congr {size n n' : Nat} {l l' : List LV} (h1 : G = G') (h2 : x = x') (h3 : n = n') (h4 : l = l') : appL G size x n l K = appL G' size x' n' l' K := by rw [h1, h2, h3, h4]
@[congr] theorem brL_congr {t t' : Bool} {A B : Prop} (h : t = t') : brL t A B = brL t' A B := by rw [h]
@[congr] theorem brG_congr {A B Z : Prop} (h : x = x') : brG x A B Z = brG x' A B Z := by rw [h]
@[congr] theorem brV_congr {A B : Prop} (h : x = x') : brV x A B = brV x' A B := by rw [h]
end congr
theorem brV_bool' {t : Bool} {A B : Prop} : brV (.bool t) A B = brL t A B := (rfl)
theorem brG_bool {t : Bool} {A B Z : Prop} : brG (.bool t) A B Z = brL t A B := (rfl)
theorem brG_nil {A B Z : Prop} : brG (.tup []) A B Z = Z := (rfl)
theorem brL_true {A B : Prop} : brL true A B = A := by simp [brL]
theorem brL_false {A B : Prop} : brL false A B = B := by simp [brL]
theorem brL_dec {p : Prop} [Decidable p] {A B : Prop} : brL (decide p) A B = ((p → A) ∧ (¬ p → B)) := by simp [brL]
theorem nthL_zero (v : LV) (l : List LV) (K : LV → Prop) : nthL (v :: l) 0 K = K v := by simp [nthL]
theorem nthL_succ (v : LV) (l : List LV) (i : Nat) (K : LV → Prop) : nthL (v :: l) (i + 1) K = nthL l i K := by simp [nthL]
def atC (o : Option LObj) (K : List LV → Nat → Prop) : Prop := match o with
 | some (.cells l st) => K l st
 | _ => False
def atD (o : Option LObj) (K : List LV → Nat → Nat → Nat → Nat → Prop) : Prop := match o with
 | some (.dyn l len esz ver st) => K l len esz ver st
 | _ => False
def cellsL (o : Option (List LV)) (K : List LV → Prop) : Prop := match o with
 | some l => K l
 | none => False
def pickL (c a b : LV) (K : LV → Prop) : Prop := match c with
 | .bool t => match a, b with
  | .bool x, .bool y => K (.bool (match t with | true => x | false => y))
  | x, y => brL t (K x) (K y)
 | _ => False
def chkL (x : LV) (K : LV → Prop) : Prop := match x with
 | .ptr p i => K (.ptr p i)
 | .dptr p k i => K (.dptr p k i)
 | .cptr l i => K (.cptr l i)
 | .fn (.func f) a b => K (.fn (.func f) a b)
 | _ => False
def strL (x : LV) (K : List UInt8 → Prop) : Prop := match x with
 | .str l => K l
 | _ => False
def bndV (x : LV) (K : Nat → Prop) : Prop := match x with
 | .i n => 0 ≤ n ∧ K n.toNat
 | .u n => K n.toNat
 | _ => False
def slL (G : LHeap) (size : Nat) (x : LV) (lo : (Nat → Prop) → Prop) (hi : Nat → (Nat → Prop) → Prop) (K : LV → Prop) : Prop := match x with
 | .nilSl => lo fun a => hi 0 fun b => a = 0 ∧ b = 0 ∧ K .nilSl
 | .dy p k => atD G[p]? fun _ len esz ver _ => k = ver ∧ esz = size ∧ lo fun a => hi len fun b => a ≤ b ∧ b ≤ len ∧ K (.vw p k a (b - a))
 | .vw p k l0 len => atD G[p]? fun _ _ esz ver _ => k = ver ∧ esz = size ∧ lo fun a => hi len fun b => a ≤ b ∧ b ≤ len ∧ K (.vw p k (l0 + a) (b - a))
 | .lst l len esz => esz = size ∧ lo fun a => hi len fun b => a ≤ b ∧ b ≤ len ∧ K (.lst ((l.drop (a * esz)).take ((b - a) * esz)) (b - a) esz)
 | _ => False
def offL (off : Nat) (x : LV) (K : LV → Prop) : Prop := match x with
 | .ptr p i => K (.ptr p (i + off))
 | .dptr p k i => K (.dptr p k (i + off))
 | .cptr l i => K (.cptr l (i + off))
 | _ => False
def fldL (g : Bool) (n off : Nat) (x : LV) (K : LV → Prop) : Prop := match x with
 | .agg l => match g with
  | true => off + n ≤ l.length ∧ K (.agg ((l.drop off).take n))
  | false => nthL l off K
 | _ => False
def ixV (G : LHeap) (size : Nat) (x : LV) (n : Int) (K : LV → Prop) : Prop := match x with
 | .dy p k => atD G[p]? fun _ len esz ver _ => k = ver ∧ esz = size ∧ 0 ≤ n ∧ n < len ∧ K (.dptr p k (n.toNat * size))
 | .vw p k lo len => atD G[p]? fun _ _ esz ver _ => k = ver ∧ esz = size ∧ 0 ≤ n ∧ n < len ∧ K (.dptr p k ((lo + n.toNat) * size))
 | .lst l len esz => esz = size ∧ 0 ≤ n ∧ n < len ∧ K (.cptr l (n.toNat * size))
 | _ => False
def ixL (G : LHeap) (size : Nat) (x i : LV) (K : LV → Prop) : Prop := match i with
 | .i n => ixV G size x n K
 | .u n => ixV G size x (n.toNat : Int) K
 | _ => False
def tupL (i : Nat) (x : LV) (K : LV → Prop) : Prop := match x with
 | .tup l => nthL l i K
 | _ => False
def maxL (mx : Bool) (x y : LV) (K : LV → Prop) : Prop := match x, y with
 | .i a, .i b => K (.i (match mx with | true => max a b | false => min a b))
 | .u a, .u b => K (.u (match mx with | true => if a < b then b else a | false => if b < a then b else a))
 | _, _ => False
def goL (P : Program) (f : LV) (args : List LV) (G : LHeap) (K : LV → LHeap → Prop) : Prop := match f with
 | .fn (.func g) a b => CallL P (.fn g) (a ++ args ++ b) G K
 | .fn (.yield p) [] _ => CallL P (.yield p) args G K
 | _ => False
section byOps
variable {P : Program} {ρ : LEnv} {G : LHeap} {K : LV → LHeap → Prop} {x y c a b s d i f : Lx} {l cs z : List LV} {ps : List (Nat × Nat × Lx)} {n size len off : Nat} {lo hi : Option Lx}
theorem OpL_move : OpL P ρ G (.move x) K = K (x.ev ρ) G := (rfl)
theorem OpL_pick : OpL P ρ G (.pick c a b) K = pickL (c.ev ρ) (a.ev ρ) (b.ev ρ) (atG K G) := (rfl)
theorem OpL_alloc : OpL P ρ G (.alloc l) K = K (.ptr G.length 0) (G ++ [.cells l 0]) := (rfl)
theorem OpL_box : OpL P ρ G (.box x) K = cellsL (x.ev ρ).cells fun l => K (.ptr G.length 0) (G ++ [.cells l 0]) := (rfl)
theorem OpL_build : OpL P ρ G (.build cs ps) K = cellsL (fillL ρ cs ps) fun l => K (.agg l) G := (rfl)
theorem OpL_buildSl : OpL P ρ G (.buildSl size len cs ps) K = cellsL (fillL ρ cs ps) fun l => l.length = len * size ∧ K (.dy G.length 0) (G ++ [.dyn l len size 0 0]) := (rfl)
theorem OpL_load1 : OpL P ρ G (.load1 x) K = read1 G (x.ev ρ) (atG K G) := (rfl)
theorem OpL_loadN : OpL P ρ G (.loadN n x) K = readL G (x.ev ρ) n fun l => K (.agg l) G := (rfl)
theorem OpL_store : OpL P ρ G (.store n x y) K = cellsL (y.ev ρ).cells fun l => l.length = n ∧ writeL G (x.ev ρ) l fun G' => K (.tup []) G' := (rfl)
theorem OpL_nilChk : OpL P ρ G (.nilChk x) K = chkL (x.ev ρ) (atG K G) := (rfl)
theorem OpL_bin {op : BinOp} {g : Bool} {t : TypeId} : OpL P ρ G (.bin op g t x y) K = binL P op g t (x.ev ρ) (y.ev ρ) (atG K G) := (rfl)
theorem OpL_un {op : UnOp} : OpL P ρ G (.un op x) K = unL op (x.ev ρ) (atG K G) := (rfl)
theorem OpL_mkFunc {g : Nat} {fs gs : List Lx} : OpL P ρ G (.mkFunc g fs gs) K = K (.fn (.func g) (fs.map (·.ev ρ)) (gs.map (·.ev ρ))) G := (rfl)
theorem bndL_some {x : Lx} {d : Nat} {K : Nat → Prop} : bndL ρ d (some x) K = bndV (x.ev ρ) K := (rfl)
theorem bndL_none {d : Nat} {K : Nat → Prop} : bndL ρ d none K = K d := (rfl)
theorem OpL_slSl : OpL P ρ G (.slSl size x lo hi) K = slL G size (x.ev ρ) (fun k => bndL ρ 0 lo k) (fun d k => bndL ρ d hi k) (atG K G) := by
 simp only [OpL, slL, atD]
 cases x.ev ρ <;> try rfl
 all_goals (cases G[_]? <;> try rfl)
theorem OpL_fieldAddr : OpL P ρ G (.fieldAddr off x) K = offL off (x.ev ρ) (atG K G) := (rfl)
theorem OpL_field {g : Bool} : OpL P ρ G (.field g n off x) K = fldL g n off (x.ev ρ) (atG K G) := (rfl)
theorem OpL_ixAddr : OpL P ρ G (.ixAddr size x i) K = ixL G size (x.ev ρ) (i.ev ρ) (atG K G) := by
 simp only [OpL, ixL, ixV, ixO, atD]
 cases i.ev ρ <;> try rfl
theorem OpL_extract : OpL P ρ G (.extract n x) K = tupL n (x.ev ρ) (atG K G) := (rfl)
theorem OpL_lenStr : OpL P ρ G (.lenStr x) K = strL (x.ev ρ) fun l => K (.i l.length) G := (rfl)
theorem OpL_lenSl : OpL P ρ G (.lenSl x) K = lenL G (x.ev ρ) fun n => K (.i n) G := (rfl)
theorem OpL_maxi {g : Bool} : OpL P ρ G (.maxi g x y) K = maxL g (x.ev ρ) (y.ev ρ) (atG K G) := (rfl)
theorem OpL_appG : OpL P ρ G (.appG size s x) K = rowL G size (x.ev ρ) fun n l => n ≤ 1048576 ∧ appL G size (s.ev ρ) n l K := (rfl)
theorem OpL_callV {args : List Lx} : OpL P ρ G (.callV f args) K = goL P (f.ev ρ) (args.map (·.ev ρ)) G K := (rfl)
end byOps
section opened
variable {P : Program} {G : LHeap} {p k i n size lo len off esz : Nat} {l r new : List LV} {K : List LV → Prop} {K1 : LV → Prop} {KG : LHeap → Prop} {KN : Nat → Prop} {KR : Nat → List LV → Prop} {KV : LV → LHeap → Prop} {KS : List UInt8 → Prop} {lof mxf : (Nat → Prop) → Prop} {hif : Nat → (Nat → Prop) → Prop}
theorem atC_some {l : List LV} {st : Nat} {K : List LV → Nat → Prop} : atC (some (.cells l st)) K = K l st := (rfl)
theorem atD_some {l : List LV} {len esz ver st : Nat} {K : List LV → Nat → Nat → Nat → Nat → Prop} : atD (some (.dyn l len esz ver st)) K = K l len esz ver st := (rfl)
theorem cellsL_some : cellsL (some l) K = K l := (rfl)
theorem pickL_true {a b : LV} : pickL (.bool true) a b K1 = K1 a := by cases a <;> cases b <;> simp [pickL, brL]
theorem pickL_false {a b : LV} : pickL (.bool false) a b K1 = K1 b := by cases a <;> cases b <;> simp [pickL, brL]
theorem pickL_and {t x : Bool} : pickL (.bool t) (.bool x) (.bool false) K1 = K1 (.bool (t && x)) := by cases t <;> rfl
theorem pickL_or {t x : Bool} : pickL (.bool t) (.bool true) (.bool x) K1 = K1 (.bool (t || x)) := by cases t <;> rfl
theorem chkL_ptr : chkL (.ptr p i) K1 = K1 (.ptr p i) := (rfl)
theorem strL_str {l : List UInt8} : strL (.str l) KS = KS l := (rfl)
theorem bndV_i {a : Int} : bndV (.i a) KN = (0 ≤ a ∧ KN a.toNat) := (rfl)
theorem slL_lst : slL G size (.lst l len esz) lof hif K1 = (esz = size ∧ lof fun a => hif len fun b => a ≤ b ∧ b ≤ len ∧ K1 (.lst ((l.drop (a * esz)).take ((b - a) * esz)) (b - a) esz)) := (rfl)
theorem offL_ptr : offL off (.ptr p i) K1 = K1 (.ptr p (i + off)) := (rfl)
theorem offL_dptr : offL off (.dptr p k i) K1 = K1 (.dptr p k (i + off)) := (rfl)
theorem offL_cptr : offL off (.cptr l i) K1 = K1 (.cptr l (i + off)) := (rfl)
theorem fldL_false : fldL false n off (.agg l) K1 = nthL l off K1 := (rfl)
theorem ixL_i {x : LV} {n : Int} : ixL G size x (.i n) K1 = ixV G size x n K1 := (rfl)
theorem ixV_dy {n : Int} : ixV G size (.dy p k) n K1 = (atD G[p]? fun _ len esz ver _ => k = ver ∧ esz = size ∧ 0 ≤ n ∧ n < len ∧ K1 (.dptr p k (n.toNat * size))) := (rfl)
theorem ixV_lst {n : Int} : ixV G size (.lst l len esz) n K1 = (esz = size ∧ 0 ≤ n ∧ n < len ∧ K1 (.cptr l (n.toNat * size))) := (rfl)
theorem tupL_tup : tupL i (.tup l) K1 = nthL l i K1 := (rfl)
theorem maxL_it {a b : Int} : maxL true (.i a) (.i b) K1 = K1 (.i (max a b)) := (rfl)
theorem goL_fn {g : Nat} {a b args : List LV} : goL P (.fn (.func g) a b) args G KV = CallL P (.fn g) (a ++ args ++ b) G KV := (rfl)
theorem goL_yield {b args : List LV} : goL P (.fn (.yield p) [] b) args G KV = CallL P (.yield p) args G KV := (rfl)
theorem readL_ptr : readL G (.ptr p i) n K = atC G[p]? fun l _ => i + n ≤ l.length ∧ K ((l.drop i).take n) := by
 simp only [readL, atC]; cases G[p]? <;> try rfl
theorem readL_dptr : readL G (.dptr p k i) n K = atD G[p]? fun l _ _ ver _ => k = ver ∧ i + n ≤ l.length ∧ K ((l.drop i).take n) := by
 simp only [readL, atD]; cases G[p]? <;> try rfl
theorem readL_cptr : readL G (.cptr l i) n K = (i + n ≤ l.length ∧ K ((l.drop i).take n)) := (rfl)
theorem read1_ptr : read1 G (.ptr p i) K1 = atC G[p]? fun l _ => nthL l i K1 := by
 simp only [read1, atC]; cases G[p]? <;> try rfl
theorem read1_dptr : read1 G (.dptr p k i) K1 = atD G[p]? fun l _ _ ver _ => k = ver ∧ nthL l i K1 := by
 simp only [read1, atD]; cases G[p]? <;> try rfl
theorem read1_cptr : read1 G (.cptr l i) K1 = nthL l i K1 := (rfl)
theorem writeL_ptr : writeL G (.ptr p i) r KG = atC G[p]? fun l st => i + r.length ≤ l.length ∧ KG (G.set p (.cells (layLV l i r) (st + 1))) := by
 simp only [writeL, atC]; cases G[p]? <;> try rfl
theorem writeL_dptr : writeL G (.dptr p k i) r KG = atD G[p]? fun l len esz ver st => k = ver ∧ i + r.length ≤ l.length ∧ KG (G.set p (.dyn (layLV l i r) len esz ver (st + 1))) := by
 simp only [writeL, atD]; cases G[p]? <;> try rfl
theorem rowL_dy : rowL G size (.dy p k) KR = atD G[p]? fun l len esz ver _ => k = ver ∧ esz = size ∧ KR len l := by
 simp only [rowL, atD]; cases G[p]? <;> try rfl
theorem rowL_lst : rowL G size (.lst l len esz) KR = (esz = size ∧ KR len l) := (rfl)
theorem lenL_nil : lenL G .nilSl KN = KN 0 := (rfl)
theorem lenL_dy : lenL G (.dy p k) KN = atD G[p]? fun _ len _ ver _ => k = ver ∧ KN len := by
 simp only [lenL, atD]; cases G[p]? <;> try rfl
theorem lenL_lst : lenL G (.lst l len esz) KN = KN len := (rfl)
theorem appL_nil : appL G size .nilSl n new KV = KV (.dy G.length 0) (G ++ [.dyn new n size 0 0]) := (rfl)
theorem appL_dy : appL G size (.dy p k) n new KV = atD G[p]? fun l len esz ver st => k = ver ∧ (esz = size ∧ 0 < esz) ∧ len ≤ 1000000000 ∧ KV (.dy p (ver + 1)) (G.set p (.dyn (l ++ new) (len + n) esz (ver + 1) (st + 1))) := by
 simp only [appL, atD]; cases G[p]? <;> try rfl
variable {op : BinOp} {g : Bool} {t : TypeId}
theorem binL_uu {a b : UInt64} : binL P op g t (.u a) (.u b) K1 = uuL op a b K1 := (rfl)
theorem binL_ii {a b : Int} : binL P op g t (.i a) (.i b) K1 = iiL op a b K1 := (rfl)
theorem binL_ss {a b : List UInt8} : binL P op g t (.str a) (.str b) K1 = ssL op a b K1 := (rfl)
theorem binL_mm : binL P op g t (.map p) .nilMap K1 = nilL P op g t (.map 0) .nilMap false K1 := (rfl)
theorem binL_in : binL P op g t .nilIf .nilIf K1 = nilL P op g t .nilIf .nilIf true K1 := (rfl)
theorem binL_if {t' : TypeId} {v : LV} : binL P op g t (.iface t' v) .nilIf K1 = nilL P op g t (.iface 0 .nilMap) .nilIf false K1 := (rfl)
theorem unL_not {b : Bool} : unL .not (.bool b) K1 = K1 (.bool (!b)) := (rfl)
end opened
section code
variable {P : Program} {f n : Nat} {ro : Option Nat} {ρ ρ' : LEnv} {D : List Nat} {G G' : LHeap} {Q : Post} {a b c : LC} {x : Lx} {id i t d : Nat} {l : List LI} {ds : List (LI × List (LI × Bool))} {cs : List (LI × Bool)} {K : LEnv → LHeap → Prop} {KV : LV → LHeap → Prop} {KL : List LV → Prop} {KG : LHeap → Prop} {Nx : LEnv → List Nat → LHeap → Prop} {rs : List RRes} {o : LOp} {od : Option Nat} {v w : LV} {vs : List LV} {it : LI}
theorem wp_skip : wp P f n ro .skip ρ D G Q = Q .normal ρ D G := (rfl)
theorem wp_ops : wp P f n ro (.ops l) ρ D G Q = OpsL P l ρ G (norQ Q D) := (rfl)
theorem wp_seq : wp P f n ro (.seq a b) ρ D G Q = wp P f n ro a ρ D G (seqQ P f n ro b Q) := (rfl)
theorem wp_cond : wp P f n ro (.cond x a b) ρ D G Q = brV (x.ev ρ) (wp P f n ro a ρ D G Q) (wp P f n ro b ρ D G Q) := (rfl)
theorem wp_block : wp P f n ro (.block id c) ρ D G Q = wp P f n ro c ρ D G (blkQ id Q) := (rfl)
theorem wp_draw : wp P f n ro (.draw ds) ρ D G Q = DrL P ds ρ G (norQ Q D) := (rfl)
theorem wp_exit : wp P f n ro (.exit id) ρ D G Q = Q (.exit id) ρ D G := (rfl)
theorem wp_ret : wp P f n ro .ret ρ D G Q = Q .ret ρ D G := (rfl)
theorem wp_loop : wp P f n ro (.loop c) ρ D G Q = W P f n (.loop c) ro ρ D G Q := (rfl)
theorem wp_range {ps : List Nat} : wp P f n ro (.rangeF x ps a b) ρ D G Q = W P f n (.rangeF x ps a b) ro ρ D G Q := (rfl)
theorem seqQ_n : seqQ P f n ro b Q .normal ρ D G = wp P f n ro b ρ D G Q := (rfl)
theorem seqQ_e : seqQ P f n ro b Q (.exit i) ρ D G = Q (.exit i) ρ D G := (rfl)
theorem seqQ_r : seqQ P f n ro b Q .ret ρ D G = Q .ret ρ D G := (rfl)
theorem blkQ_n : blkQ id Q .normal ρ D G = Q .normal ρ D G := (rfl)
theorem blkQ_e : blkQ id Q (.exit i) ρ D G = if i = id then Q .normal ρ D G else Q (.exit i) ρ D G := (rfl)
theorem blkQ_r : blkQ id Q .ret ρ D G = Q .ret ρ D G := (rfl)
theorem nxQ_n : nxQ Nx Q .normal ρ D G = Nx ρ D G := (rfl)
theorem nxQ_e : nxQ Nx Q (.exit i) ρ D G = Q (.exit i) ρ D G := (rfl)
theorem nxQ_r : nxQ Nx Q .ret ρ D G = Q .ret ρ D G := (rfl)
theorem endQ_n : endQ rs KV .normal ρ D G = takeL D G (takK ρ rs KV) := (rfl)
theorem endQ_r : endQ rs KV .ret ρ D G = takeL D G (takK ρ rs KV) := (rfl)
theorem norQ_app : norQ Q D ρ G = Q .normal ρ D G := (rfl)
theorem takeL_nil : takeL [] G KG = KG G := (rfl)
theorem takeL_cons : takeL (d :: D) G KG = takM G[d]? (takeL D (G.set d (.defd false)) KG) := (rfl)
theorem takM_some {A : Prop} : takM (some (.defd true)) A = A := (rfl)
theorem takK_app : takK ρ rs KV G = resL ρ G rs (endK KV G) := (rfl)
theorem endK_app : endK KV G vs = KV (oneL vs) G := (rfl)
theorem resL_nil : resL ρ G [] KL = KL [] := (rfl)
theorem resL_tmp : resL ρ G (.tmp t :: rs) KL = resL ρ G rs (tmpK ρ t KL) := (rfl)
theorem tmpK_app : tmpK ρ t KL vs = KL (lk ρ t :: vs) := (rfl)
theorem oneL_1 : oneL [v] = v := (rfl)
theorem oneL_0 : oneL [] = .tup [] := (rfl)
theorem oneL_2 : oneL (v :: w :: vs) = .tup (v :: w :: vs) := (rfl)
theorem OpsL_nil : OpsL P [] ρ G K = K ρ G := (rfl)
theorem OpsL_cons : OpsL P (it :: l) ρ G K = ItL P it ρ G (opsK P l K) := (rfl)
theorem opsK_app : opsK P l K ρ G = OpsL P l ρ G K := (rfl)
theorem ItL_n : ItL P ⟨od, none, o⟩ ρ G K = OpL P ρ G o (itK ρ od K) := (rfl)
theorem ItL_t : ItL P ⟨od, some (t, true), o⟩ ρ G K = brG (lk ρ t) (OpL P (setL t (.bool true) ρ) G o (itK (setL t (.bool true) ρ) od K)) (itK (setL t (.bool false) ρ) od K (.tup []) G) (itK ρ od K (.tup []) G) := (rfl)
theorem ItL_f : ItL P ⟨od, some (t, false), o⟩ ρ G K = brG (lk ρ t) (itK (setL t (.bool true) ρ) od K (.tup []) G) (OpL P (setL t (.bool false) ρ) G o (itK (setL t (.bool false) ρ) od K)) (itK ρ od K (.tup []) G) := (rfl)
theorem itK_some : itK ρ (some d) K v G = K ((d, v) :: ρ) G := (rfl)
theorem itK_none : itK ρ none K v G = K ρ G := (rfl)
theorem atG_app : atG KV G v = KV v G := (rfl)
theorem DrL_nil : DrL P [] ρ G K = K ρ G := (rfl)
theorem DrL_cons : DrL P ((it, cs) :: ds) ρ G K = ItL P it ρ G (drK P cs ds ρ G K) := (rfl)
theorem drK_app : drK P cs ds ρ G K ρ' G' = (cksL ρ G G' cs ∧ DrL P ds ρ' G' K) := (rfl)
theorem ev_t : (Lx.t i).ev ρ = lk ρ i := (rfl)
theorem ev_c : (Lx.c v).ev ρ = v := (rfl)
theorem argsL_nil : argsL [] i = [] := (rfl)
theorem argsL_cons : argsL (v :: vs) i = (i, v) :: argsL vs (i + 1) := (rfl)
theorem setL_cons : setL t v ((d, w) :: ρ) = if t = d then (d, v) :: ρ else (d, w) :: setL t v ρ := (rfl)
end code
section nums
variable {K : LV → Prop}
theorem uuL_lss {a b : UInt64} : uuL .lss a b K = K (.bool (decide (a < b))) := (rfl)
theorem uuL_gtr {a b : UInt64} : uuL .gtr a b K = K (.bool (decide (b < a))) := (rfl)
theorem iiL_add {a b : Int} : iiL .add a b K = (inI (a + b) ∧ K (.i (a + b))) := (rfl)
theorem iiL_sub {a b : Int} : iiL .sub a b K = (inI (a - b) ∧ K (.i (a - b))) := (rfl)
theorem iiL_eql {a b : Int} : iiL .eql a b K = K (.bool (decide (a = b))) := (rfl)
theorem iiL_neq {a b : Int} : iiL .neq a b K = K (.bool (decide (a ≠ b))) := (rfl)
theorem iiL_lss {a b : Int} : iiL .lss a b K = K (.bool (decide (a < b))) := (rfl)
theorem iiL_leq {a b : Int} : iiL .leq a b K = K (.bool (decide (a ≤ b))) := (rfl)
theorem iiL_gtr {a b : Int} : iiL .gtr a b K = K (.bool (decide (b < a))) := (rfl)
theorem iiL_geq {a b : Int} : iiL .geq a b K = K (.bool (decide (b ≤ a))) := (rfl)
theorem ssL_eql {a b : List UInt8} : ssL .eql a b K = K (.bool (decide (a = b))) := (rfl)
theorem ssL_neq {a b : List UInt8} : ssL .neq a b K = K (.bool (decide (a ≠ b))) := (rfl)
theorem nilL_eql {P : Program} {g : Bool} {t : TypeId} {a b : AV} {r : Bool} : nilL P .eql g t a b r K = (eqA P g t a b = some r ∧ K (.bool r)) := (rfl)
end nums
section congr2
variable {P : Program} {G G' : LHeap} {x x' y y' z z' : LV} {K : LV → LHeap → Prop} {Kv : LV → Prop} {n n' size : Nat}
@[congr] theorem atC_congr {o o' : Option LObj} {K : List LV → Nat → Prop} (h : o = o') : atC o K = atC o' K := by rw [h]
@[congr] theorem atD_congr {o o' : Option LObj} {K : List LV → Nat → Nat → Nat → Nat → Prop} (h : o = o') : atD o K = atD o' K := by rw [h]
@[congr] theorem cellsL_congr {o o' : Option (List LV)} {K : List LV → Prop} (h : o = o') : cellsL o K = cellsL o' K := by rw [h]
@[congr] theorem pickL_congr (h1 : x = x') (h2 : y = y') (h3 : z = z') : pickL x y z Kv = pickL x' y' z' Kv := by rw [h1, h2, h3]
@[congr] theorem chkL_congr (h1 : x = x') : chkL x Kv = chkL x' Kv := by rw [h1]
@[congr] theorem strL_congr {K : List UInt8 → Prop} (h1 : x = x') : strL x K = strL x' K := by rw [h1]
@[congr] theorem bndV_congr {K : Nat → Prop} (h1 : x = x') : bndV x K = bndV x' K := by rw [h1]
@[congr] theorem slL_congr {lo : (Nat → Prop) → Prop} {hi : Nat → (Nat → Prop) → Prop} (h1 : G = G') (h2 : x = x') : slL G size x lo hi Kv = slL G' size x' lo hi Kv := by rw [h1, h2]
@[congr] theorem offL_congr (h1 : x = x') : offL n x Kv = offL n x' Kv := by rw [h1]
@[congr] theorem fldL_congr {g : Bool} {m : Nat} (h1 : x = x') : fldL g n m x Kv = fldL g n m x' Kv := by rw [h1]
@[congr] theorem ixL_congr (h1 : G = G') (h2 : x = x') (h3 : y = y') : ixL G size x y Kv = ixL G' size x' y' Kv := by rw [h1, h2, h3]
@[congr] theorem tupL_congr (h1 : x = x') : tupL n x Kv = tupL n x' Kv := by rw [h1]
@[congr] theorem maxL_congr {g : Bool} (h2 : x = x') (h3 : y = y') : maxL g x y Kv = maxL g x' y' Kv := by rw [h2, h3]
@[congr] theorem goL_congr {l l' : List LV} (h1 : x = x') (h2 : l = l') (h3 : G = G') : goL P x l G K = goL P x' l' G' K := by rw [h1, h2, h3]
end congr2
theorem layLV_zero (l r : List LV) : layLV l 0 r = r ++ l.drop r.length := by simp [layLV]
theorem layLV_succ (v : LV) (l r : List LV) (i : Nat) : layLV (v :: l) (i + 1) r = v :: layLV l i r := by
 unfold layLV
 rw [show i + 1 + r.length = (i + r.length) + 1 from by omega]
 simp
attribute [simp] cksL ckL ckC keptL tgtL LObj.stp LObj.st nthL_zero nthL_succ lk_nil lk_cons fillL LV.cells subV subVs SelR notP shV shVs frV frVs bor bors LV.dat dats LV.scal LV.sim sims layLV_zero layLV_succ inI
attribute [simp] brV_bool' brG_bool brG_nil brL_true brL_false brL_dec
attribute [simp ↓] brV_bool' brG_bool brG_nil brL_true brL_false nthL_zero nthL_succ
attribute [simp ↓] OpL_move OpL_pick OpL_alloc OpL_box OpL_build OpL_buildSl OpL_load1 OpL_loadN OpL_store OpL_nilChk OpL_bin OpL_un OpL_mkFunc bndL_some bndL_none OpL_slSl OpL_fieldAddr OpL_field OpL_ixAddr OpL_extract OpL_lenStr OpL_lenSl OpL_maxi OpL_appG OpL_callV
attribute [simp] atC_some atD_some cellsL_some pickL_true pickL_false pickL_and pickL_or chkL_ptr strL_str bndV_i slL_lst offL_ptr offL_dptr offL_cptr fldL_false ixL_i ixV_dy ixV_lst tupL_tup maxL_it goL_fn goL_yield readL_ptr readL_dptr readL_cptr read1_ptr read1_dptr read1_cptr writeL_ptr writeL_dptr rowL_dy rowL_lst lenL_nil lenL_dy lenL_lst appL_nil appL_dy binL_uu binL_ii binL_ss binL_mm binL_in binL_if unL_not
attribute [simp ↓] atC_some atD_some cellsL_some pickL_true pickL_false pickL_and pickL_or chkL_ptr strL_str bndV_i slL_lst offL_ptr offL_dptr offL_cptr fldL_false ixL_i ixV_dy ixV_lst tupL_tup maxL_it goL_fn goL_yield readL_ptr readL_dptr readL_cptr read1_ptr read1_dptr read1_cptr writeL_ptr writeL_dptr rowL_dy rowL_lst lenL_nil lenL_dy lenL_lst appL_nil appL_dy binL_uu binL_ii binL_ss binL_mm binL_in binL_if unL_not
attribute [simp] wp_skip wp_ops wp_seq wp_cond wp_block wp_draw wp_exit wp_ret wp_loop wp_range seqQ_n seqQ_e seqQ_r blkQ_n blkQ_e blkQ_r nxQ_n nxQ_e nxQ_r endQ_n endQ_r norQ_app takeL_nil takeL_cons takM_some takK_app endK_app resL_nil resL_tmp tmpK_app oneL_1 oneL_0 oneL_2 OpsL_nil OpsL_cons opsK_app ItL_n ItL_t ItL_f itK_some itK_none atG_app DrL_nil DrL_cons drK_app ev_t ev_c argsL_nil argsL_cons setL_cons uuL_lss uuL_gtr iiL_add iiL_sub iiL_eql iiL_neq iiL_lss iiL_leq iiL_gtr iiL_geq ssL_eql ssL_neq nilL_eql
attribute [simp ↓] wp_skip wp_ops wp_seq wp_cond wp_block wp_draw wp_exit wp_ret wp_loop wp_range seqQ_n seqQ_e seqQ_r blkQ_n blkQ_e blkQ_r nxQ_n nxQ_e nxQ_r endQ_n endQ_r norQ_app takeL_nil takeL_cons takM_some takK_app endK_app resL_nil resL_tmp tmpK_app oneL_1 oneL_0 oneL_2 OpsL_nil OpsL_cons opsK_app ItL_n ItL_t ItL_f itK_some itK_none atG_app DrL_nil DrL_cons drK_app ev_t ev_c argsL_nil argsL_cons setL_cons uuL_lss uuL_gtr iiL_add iiL_sub iiL_eql iiL_neq iiL_lss iiL_leq iiL_gtr iiL_geq ssL_eql ssL_neq nilL_eql
def keyB (o : Option Bool) (A B : Prop) : Prop := match o with
 | some b => brL b A B
 | none => False
def atM (o : Option LObj) (K : List (LV × LV × Nat) → Nat → Nat → Prop) : Prop := match o with
 | some (.map es ck st) => K es ck st
 | _ => False
noncomputable def lookM (d : TypeDesc) (k z : LV) (ok : Bool) (K : LV → Prop) : List (LV × LV × Nat) → Prop := fun es => findL d k (lookK z ok K) es
def conM (x : LV × LV × Nat) (K : List (LV × LV × Nat) → Bool → Prop) : List (LV × LV × Nat) → Bool → Prop := fun r new => K (x :: r) new
section maps
variable {P : Program} {ρ : LEnv} {G G' : LHeap} {K : LV → LHeap → Prop} {K1 : LV → Prop} {x i m k v z x' k' : LV} {X I M V : Lx} {d : TypeDesc} {ok : Bool} {es es' : List (LV × LV × Nat)} {KE : List (LV × LV × Nat) → Prop} {KB : List (LV × LV × Nat) → Bool → Prop} {KH : LHeap → Prop} {p ck st n size : Nat} {lo hi : Option Lx} {A B : Prop} {lof : (Nat → Prop) → Prop} {hif : Nat → (Nat → Prop) → Prop}
theorem OpL_mkMap0 : OpL P ρ G .mkMap0 K = K (.map G.length) (G ++ [.map [] 0 0]) := (rfl)
theorem OpL_lookup : OpL P ρ G (.lookup d z ok X I) K = mapL G (X.ev ρ) (lookM d (I.ev ρ) z ok (atG K G)) := (rfl)
theorem OpL_mapUpd : OpL P ρ G (.mapUpd d M I V) K = updL' G d (M.ev ρ) (I.ev ρ) (V.ev ρ) fun G' => K .any G' := (rfl)
theorem OpL_lenMap : OpL P ρ G (.lenMap X) K = mapL G (X.ev ρ) fun es => K (.i es.length) G := (rfl)
theorem atM_some {K : List (LV × LV × Nat) → Nat → Nat → Prop} : atM (some (.map es ck st)) K = K es ck st := (rfl)
theorem mapL_map : mapL G (.map p) KE = atM G[p]? fun es _ _ => KE es := by
 simp only [mapL, atM]; cases G[p]? <;> try rfl
theorem lookM_app : lookM d k z ok K1 es = findL d k (lookK z ok K1) es := (rfl)
theorem findL_cons {KO : Option LV → Prop} : findL d k KO ((k', v, n) :: es) = keyB (keyL d k k') (KO (some v)) (findL d k KO es) := (rfl)
theorem lookK_st : lookK z true K1 (some v) = K1 (.tup [v, .bool true]) := (rfl)
theorem lookK_sf : lookK z false K1 (some v) = K1 v := (rfl)
theorem lookK_nt : lookK z true K1 none = K1 (.tup [z, .bool false]) := (rfl)
theorem lookK_nf : lookK z false K1 none = K1 z := (rfl)
theorem updL'_map : updL' G d (.map p) k v KH = atM G[p]? fun es ck st => putL d k v ck (setK G p ck st KH) es := by
 simp only [updL', atM]; cases G[p]? <;> try rfl
theorem putL_cons {w : LV} : putL d k v ck KB ((k', w, n) :: es) = keyB (keyL d k k') (KB ((k, v, n) :: es) false) (putL d k v ck (conM (k', w, n) KB) es) := (rfl)
theorem conM_app {y : LV × LV × Nat} {b : Bool} : conM y KB es b = KB (y :: es) b := (rfl)
theorem keyB_some {b : Bool} : keyB (some b) A B = brL b A B := (rfl)
theorem keyL_s {a b : List UInt8} : keyL .string (.str a) (.str b) = some (decide (a = b)) := (rfl)
@[congr] theorem atM_congr {o o' : Option LObj} {K : List (LV × LV × Nat) → Nat → Nat → Prop} (h : o = o') : atM o K = atM o' K := by rw [h]
@[congr] theorem mapL_congr (h1 : G = G') (h2 : x = x') : mapL G x KE = mapL G' x' KE := by rw [h1, h2]
@[congr] theorem findL_congr {KO : Option LV → Prop} (h1 : k = k') (h2 : es = es') : findL d k KO es = findL d k' KO es' := by rw [h1, h2]
@[congr] theorem updL'_congr {v' m' : LV} (h1 : G = G') (h2 : m = m') (h3 : k = k') (h4 : v = v') : updL' G d m k v KH = updL' G' d m' k' v' KH := by rw [h1, h2, h3, h4]
theorem OpL_mkIface {t : TypeId} : OpL P ρ G (.mkIface t X) K = K (.iface t (X.ev ρ)) G := (rfl)
theorem OpL_assert {t : TypeId} : OpL P ρ G (.assert z ok t X) K = asrtL z ok t (X.ev ρ) (atG K G) := (rfl)
theorem OpL_clone {f : Nat} : OpL P ρ G (.clone f X) K = (isClone P f = true ∧ clnL G (X.ev ρ) K) := (rfl)
theorem asrtL_nil {t : TypeId} : asrtL z ok t .nilIf K1 = (ok = true ∧ K1 (.tup [z, .bool false])) := (rfl)
theorem asrtL_st {t : TypeId} : asrtL z true t (.iface t v) K1 = K1 (.tup [v, .bool true]) := by
 unfold asrtL; dsimp only; rw [Nat.beq_refl]
theorem asrtL_sf {t : TypeId} : asrtL z false t (.iface t v) K1 = K1 v := by
 unfold asrtL; dsimp only; rw [Nat.beq_refl]
theorem asrtL_nt {t t' : TypeId} (h : t' ≠ t) : asrtL z true t (.iface t' v) K1 = K1 (.tup [z, .bool false]) := by
 unfold asrtL; dsimp only
 cases e : Nat.beq t' t with
 | true => exact absurd (Nat.eq_of_beq_eq_true e) h
 | false => simp
theorem clnL_if {t : TypeId} : clnL G (.iface t (.map p)) K = atM G[p]? fun es ck _ => K (.iface t (.map G.length)) (G ++ [.map es ck 0]) := by
 simp only [clnL, atM]; cases G[p]? <;> try rfl
@[congr] theorem asrtL_congr {t : TypeId} (h : x = x') : asrtL z ok t x K1 = asrtL z ok t x' K1 := by rw [h]
@[congr] theorem clnL_congr (h1 : G = G') (h2 : x = x') : clnL G x K = clnL G' x' K := by rw [h1, h2]
end maps
attribute [simp ↓] OpL_mkIface OpL_assert OpL_clone asrtL_nil asrtL_st asrtL_sf clnL_if
attribute [simp] asrtL_nil asrtL_st asrtL_sf asrtL_nt clnL_if
attribute [simp] atM_some mapL_map lookM_app findL_cons lookK_st lookK_sf lookK_nt lookK_nf updL'_map putL_cons conM_app keyB_some keyL_s
attribute [simp ↓] OpL_mkMap0 OpL_lookup OpL_mapUpd OpL_lenMap atM_some mapL_map lookM_app findL_cons lookK_st lookK_sf lookK_nt lookK_nf updL'_map putL_cons conM_app keyB_some keyL_s
abbrev LI.z (d : Nat) (o : LOp) : LI := ⟨some d, none, o⟩
abbrev LI.m (d t : Nat) : LI := ⟨some d, none, .move (.t t)⟩
abbrev LI.l (d t : Nat) : LI := ⟨some d, none, .load1 (.t t)⟩
abbrev LI.f (d n t : Nat) : LI := ⟨some d, none, .fieldAddr n (.t t)⟩
end Go.Sv
namespace Go.Sv
open Go.RowKit (Below)
mutual
inductive Sh where
 | bool
 | u
 | b
 | i
 | k (k : IntKind)
 | str
 | sl (s : Sh)
 | st (l : ShL)
inductive ShL where
 | nil
 | cons (s : Sh) (l : ShL)
end
mutual
def Sh.n : Sh → Nat
 | .st l => l.n
 | _ => 1
def ShL.n : ShL → Nat
 | .nil => 0
 | .cons s l => s.n + l.n
end
mutual
def Sh.T : Sh → Type
 | .bool => Bool
 | .u => UInt64
 | .b => UInt8
 | .i => { n : Int // inI n }
 | .k _ => Int
 | .str => { l : List UInt8 // l.length ≤ maxLen }
 | .sl s => { l : List s.T // l.length ≤ maxLen }
 | .st l => l.T
def ShL.T : ShL → Type
 | .nil => Unit
 | .cons s l => s.T × l.T
end
mutual
def Sh.enc : (s : Sh) → s.T → List LV
 | .bool, x => [.bool x]
 | .u, x => [.u x]
 | .b, x => [.b x]
 | .i, x => [.i x.1]
 | .k k, x => [.int k x]
 | .str, x => [.str x.1]
 | .sl s, x => [.lst (x.1.flatMap s.enc) x.1.length s.n]
 | .st l, x => l.enc x
def ShL.enc : (l : ShL) → l.T → List LV
 | .nil, _ => []
 | .cons s l, x => s.enc x.1 ++ l.enc x.2
end
mutual
theorem Sh.enc_length : ∀ (s : Sh) (x : s.T), (s.enc x).length = s.n
 | .bool, _ => rfl
 | .u, _ => rfl
 | .b, _ => rfl
 | .i, _ => rfl
 | .k _, _ => rfl
 | .str, _ => rfl
 | .sl _, _ => rfl
 | .st l, x => by simp only [Sh.enc, Sh.n]; exact ShL.enc_length l x
theorem ShL.enc_length : ∀ (l : ShL) (x : l.T), (l.enc x).length = l.n
 | .nil, _ => rfl
 | .cons s l, x => by simp only [ShL.enc, ShL.n, List.length_append, Sh.enc_length s x.1, ShL.enc_length l x.2]
end
theorem Rel.ro {W : World} {C : CM} {H : Heap} (h : Rel W C H W) {L : Loc} (hL : L.b < W.heap.size) {l : List AV} (hob : C.le (C.ext H.next 0 L) → ObjR W.heap.size (C.ext H.next 0 L) W H.next (.cells (ofListFrom l 0 .e) l.length 0 true)) :
  Rel W (C.ext H.next 0 L) (H.push (.cells (ofListFrom l 0 .e) l.length 0 true)) W ∧ C.le (C.ext H.next 0 L) := by
 have hle : C.le (C.ext H.next 0 L) := CM.le_ext _ (h.next_none 0) (.inr (Nat.le_of_eq h.nx))
 refine ⟨⟨by show max C.nx (H.next + 1) = H.next + 1; rw [h.nx]; exact Nat.max_eq_right (Nat.le_succ _), h.low, ?_, ?_, ?_, ?_, ?_⟩, hle⟩
 ·intro o v L' hL'
  show o < H.next + 1
  by_cases e : o = H.next ∧ v = 0
  ·omega
  ·rw [CM.ext_ne _ _ e] at hL'; have := h.fresh _ _ _ hL'; omega
 ·intro o v L' hL'
  by_cases e : o = H.next ∧ v = 0
  ·obtain ⟨rfl, rfl⟩ := e; rw [CM.ext_same] at hL'; cases hL'; exact hL
  ·rw [CM.ext_ne _ _ e] at hL'; exact h.lt _ _ _ hL'
 ·intro o v L1 o' v' L2 h1 h2 hb hB
  by_cases e : o = H.next ∧ v = 0
  ·obtain ⟨rfl, rfl⟩ := e; rw [CM.ext_same] at h1; cases h1; omega
  ·by_cases e' : o' = H.next ∧ v' = 0
   ·obtain ⟨rfl, rfl⟩ := e'; rw [CM.ext_same] at h2; cases h2; omega
   ·rw [CM.ext_ne _ _ e] at h1; rw [CM.ext_ne _ _ e'] at h2; exact h.excl _ _ _ _ _ _ h1 h2 hb hB
 ·intro o ob ho hg
  by_cases e : o = H.next
  ·subst e; rw [Heap.get_push_same] at hg; cases hg; exact hob hle
  ·have ho' : o < H.next := by have : o < H.next + 1 := ho; omega
   rw [Heap.get_push_ne _ _ ho'] at hg
   refine (h.obj _ _ ho' hg).frame hle (fun v L' hL' => ?_) (fun _ _ _ => rfl)
   rwa [CM.ext_ne _ _ (by omega)] at hL'
 ·intro o c len ver ro ho hg v L' hL'
  by_cases e : o = H.next
  ·subst e
   by_cases ev : v = 0
   ·omega
   ·rw [CM.ext_ne _ _ (by omega)] at hL'; have := h.fresh _ _ _ hL'; omega
  ·have ho' : o < H.next := by have : o < H.next + 1 := ho; omega
   rw [Heap.get_push_ne _ _ ho'] at hg
   rw [CM.ext_ne _ _ (by omega)] at hL'
   exact h.top _ _ _ _ _ ho' hg _ _ hL'
def outC (H : Heap) : Cx := ⟨[], fun o => o < H.next, H⟩
def Grow (H H' : Heap) : Prop := H.next ≤ H'.next ∧ ∀ o, o < H.next → H'.get o = H.get o
theorem Grow.refl (H : Heap) : Grow H H := ⟨Nat.le_refl _, fun _ _ => rfl⟩
theorem Grow.trans {A B C : Heap} (h : Grow A B) (k : Grow B C) : Grow A C := ⟨Nat.le_trans h.1 k.1, fun o ho => by rw [k.2 o (Nat.lt_of_lt_of_le ho h.1), h.2 o ho]⟩
theorem Grow.le {H H' : Heap} (h : Grow H H') : CxLe (outC H) (outC H') :=
 ⟨fun p k x e => by simp [outC] at e, fun o ho => ⟨Nat.lt_of_lt_of_le ho h.1, h.2 o ho⟩⟩
section imp
variable {HH : Type} {enc : TypeId × Value → HH} {P : Program} {W : World}
theorem not_frozen_row {ps : List MemPlace} (hz : W.noneFrozen ps) {b off n : Nat} (h : ∀ x ∈ MemPlace.row ⟨b, off, none⟩ n, x ∈ ps) {i : Nat} (hi : i < n) : W.frozen? ⟨b, off + i, none⟩ = false :=
 hz b (off + i) (h _ (List.mem_map.2 ⟨i, List.mem_range.2 hi, rfl⟩))
end imp
end Go.Sv
namespace Go.Sv
open Go.RowKit Go.ChangeShapes Go.WideShapes Go.ChangeAt
def Sh.arg : (s : Sh) → s.T → LV
 | .st l, x => .agg (l.enc x)
 | .bool, x => .bool x
 | .u, x => .u x
 | .b, x => .b x
 | .i, x => .i x.1
 | .k kk, x => .int kk x
 | .str, x => .str x.1
 | .sl s, x => .lst (x.1.flatMap s.enc) x.1.length s.n
def ShL.args : (l : ShL) → l.T → List LV
 | .nil, _ => []
 | .cons s l, x => s.arg x.1 :: l.args x.2
section law
variable {H : Type} {enc : TypeId × Value → H} {P : Program}
theorem stays_all (hl : laidOutB P = true) {W W' : World} (hb : Below W.heap.size W W') {sp : Nat → Bool} : ∀ {ts : List TypeId} {vs : List Value} {ds : List (DataW H)} {ps : List MemPlace}, (∀ t ∈ ts, P.readableRec t = true ∧ t < P.types.size) → DataW.TrodAll enc P W 0 (fun _ => true) true ts vs ds ps →
  (∀ x ∈ ps, x.block < W.heap.size) → (∀ x ∈ ps, sp x.block = true) → DataW.TrodAll enc P W' 0 sp true ts vs ds ps
 | [], [], [], _, _, h, _, _ => h
 | t :: ts, v :: vs, d :: ds, _, hr, ⟨p, q, h1, h2, e⟩, hlt, hsp => by
  subst e
  exact ⟨p, q, WideElems.Trod_stays hl (hr t (by simp)).1 (hr t (by simp)).2 h1 (fun x hx => hb.same (hlt x (List.mem_append_left _ hx))) (fun x hx => hsp x (List.mem_append_left _ hx)),
   stays_all hl hb (fun t' ht => hr t' (by simp [ht])) h2 (fun x hx => hlt x (List.mem_append_right _ hx)) (fun x hx => hsp x (List.mem_append_right _ hx)), rfl⟩
 | [], [], _ :: _, _, _, h, _, _ => h.elim
 | [], _ :: _, _, _, _, h, _, _ => h.elim
 | _ :: _, [], _, _, _, h, _, _ => h.elim
 | _ :: _, _ :: _, [], _, _, h, _, _ => h.elim
theorem law_post {f : Func} {s : ChangeSpec} {apart fresh handsOn again : Bool} {W W' : World} {args : Array Value} {ds gs : List (DataW H)} {before : List MemPlace} {tb : TypeId} (hW : DataW.Whole enc P f.params.toList s.vars apart W args.toList ds gs before) (hvars : s.vars = [])
  (hspec : ∀ ds' : List (DataW H), ds'.length = f.params.toList.length → s.fn H ds' = { results := [.lit (.bool true)], args := ds' }) (hb : Below W.heap.size W W') (hl : laidOutB P = true) (hr : ∀ t ∈ f.params.toList, P.readableRec t = true ∧ t < P.types.size)
  (hres : f.resultTypes = #[tb]) (hbool : P.underlying tb = some .bool) : s.post enc P f apart fresh handsOn again W args (.bool true) W' := by
 have hW' := hW
 obtain ⟨p, q, hA, hV, rfl, hfz, hnd⟩ := hW
 rw [hvars] at hV
 obtain ⟨rfl, rfl⟩ := trodVars_none hV
 have hlen : ds.length = f.params.toList.length := (trodAll_length hA).2
 have hs := hspec ds hlen
 have hs' : s.fn H (ds ++ []) = { results := [.lit (.bool true)], args := ds } := by rw [List.append_nil]; exact hs
 have hlt := hW'.lt
 refine post_below (pa := p) (pv := []) hW' (fun b sp hd => ?_) (fun sp hsp => ?_) (fun sp _ => ?_) rfl hb ?_
 ·rw [hs', hres]
  exact trodAll_cons_mk (shut_bool hbool _) trodAll_mk0
 ·rw [hs']
  exact stays_all hl hb hr hA (fun x hx => hlt x (by simp [hx])) (fun x hx => hsp x (by simp [hx]))
 ·rw [hs', hvars]; rfl
 ·exact ok_one hres rfl (okWide_bool_mk hbool _)
end law
end Go.Sv
namespace Go.Sv
def borR (G : LHeap) (v d : LV) : Prop := match v with
 | .tup l => ∃ r, d = .tup r ∧ bors G l r
 | v => bor G v d
def FnV (P : Program) (f : Nat) (args : List LV) (v0 : LV) : Prop :=
 tgtOk P (.fn f) ∧ v0.dat = true ∧ ∀ (Fz : Nat → Prop) (H : Heap) (args1 : List AV), (∀ o, Fz o → o < H.next) → ARs ⟨[], Fz, H⟩ args args1 →
  ∃ (m : Nat) (v1 : AV) (Fz' : Nat → Prop) (H' : Heap), callA P (OL P) m (.fn f) args1 H = .ok v1 H' ∧ H.next ≤ H'.next ∧ (∀ o, Fz o → Fz' o) ∧ (∀ o, Fz' o → o < H'.next ∧ (Fz o ∨ H.next ≤ o)) ∧ (∀ o, o < H.next → H'.get o = H.get o) ∧ AR ⟨[], Fz', H'⟩ v0 v1
section calls
variable {P : Program}
theorem borR_ok {c : Cx} {G : LHeap} (hs : HSim c G) (v d : LV) (a : AV) (hb : borR G v d) (h : AR c v a) : AR ⟨[], fun o => c.Fz o ∨ Own c G o, c.H⟩ d a := by
 unfold borR at hb
 split at hb
 ·obtain ⟨r, rfl, hb⟩ := hb
  cases h with
  | tup h => exact .tup (bors_ok hs _ _ _ hb h)
 ·exact bor_ok hs _ _ _ hb h
theorem FnV.mk {f : Nat} {args : List LV} {v0 : LV} (hd : v0.dat = true) (h : CallL P (.fn f) args [] fun v G => borR G v v0) : FnV P f args v0 := by
 refine ⟨h.1, hd, fun Fz H args1 hfz ha => ?_⟩
 obtain ⟨m, v1, H', q1, c1, v, G, rfl, q3, q4, q5, q6⟩ := h.2 ⟨[], Fz, H⟩ (.fn f) args1 (.empty hfz) rfl ha
 have hno : ∀ o, ¬ Own ⟨[], Fz, H⟩ [] o := fun o ⟨p, _, _, _, e, _⟩ => by simp at e
 refine ⟨m, v1, _, c1.H, q1, q4.nx, fun o ho => .inl (q4.le.fz o ho).1, fun o ho => ⟨ho.elim (q3.fz o) (q3.lt o), ?_⟩, fun o ho => q4.frame o ho (hno o), borR_ok q3 v v0 v1 q6 q5⟩
 rcases ho with ho | ho
 ·rcases q4.fznew o ho with h | h | h
  ·exact .inl h
  ·exact absurd h (hno o)
  ·exact .inr h
 ·rcases q4.new o ho with h | h
  ·exact absurd h (hno o)
  ·exact .inr h
theorem call_keep {c : Cx} {G : LHeap} (hs : HSim c G) {Fz' : Nat → Prop} {H' : Heap} (q2 : c.H.next ≤ H'.next) (q3 : ∀ o, c.Fz o → Fz' o) (q4 : ∀ o, Fz' o → o < H'.next ∧ (c.Fz o ∨ c.H.next ≤ o)) (q5 : ∀ o, o < c.H.next → H'.get o = c.H.get o) :
  HSim ⟨c.hd, Fz', H'⟩ G ∧ Step c G ⟨c.hd, Fz', H'⟩ G := by
 have hle : CxLe c ⟨c.hd, Fz', H'⟩ := ⟨fun p k h e => ⟨k, h, e, Nat.le_refl _, fun _ => rfl, fun _ => rfl⟩, fun o ho => ⟨q3 o ho, q5 o (hs.fz o ho)⟩⟩
 have hown : ∀ o, Own ⟨c.hd, Fz', H'⟩ G o → Own c G o := fun o ⟨p, ob, k, h, e1, e2, e3, e4⟩ => ⟨p, ob, k, h, e1, e2, e3, e4⟩
 refine ⟨⟨hs.len, fun o ho => (q4 o ho).1, fun o ho => Nat.lt_of_lt_of_le (hs.lt o (hown o ho)) q2, fun o ho hf => ?_, fun p ob k h e1 e2 => ?_, fun p q ob ob' k h k' h' o e1 e2 e3 e4 e5 e6 e7 e8 => hs.excl p q ob ob' k h k' h' o e1 e2 e3 e4 e5 e6 e7 e8⟩, ?_⟩
 ·rcases (q4 o hf).2 with h | h
  ·exact hs.sep o (hown o ho) h
  ·have := hs.lt o (hown o ho); omega
 ·by_cases hl : ob.live = true
  ·exact (hs.obj p ob k h e1 e2).mono hle (fun o ho => q5 o (hs.lt o ⟨p, ob, k, h, e1, hl, e2, ho⟩))
  ·cases ob <;> first | exact absurd rfl hl | trivial
 ·refine ⟨hle, q2, fun o ho _ => q5 o ho, fun o ho => .inl (hown o ho), fun o ho => (q4 o ho).2.elim .inl (fun h => .inr (.inr h)), fun p ob ob' e1 e2 => ?_, fun p ob ob' k h o e1 e2 e3 e4 e5 e6 => ?_⟩
  ·rw [e1] at e2; cases e2; exact Nat.le_refl _
  ·rw [e1] at e2; cases e2
   have hl : ob.live = true := by cases ob <;> first | rfl | cases e5
   exact ⟨rfl, q5 o (hs.lt o ⟨p, ob, k, h, e1, hl, e3, e4⟩), rfl⟩
theorem CallL_V {f : Nat} {args : List LV} {v0 : LV} {G : LHeap} {K : LV → LHeap → Prop} (hc : FnV P f args v0) (hb : dats args = true) (k : K v0 G) : CallL P (.fn f) args G K := by
 obtain ⟨ht, hd, hrun⟩ := hc
 refine ⟨ht, fun c t1 args1 hs htr ha => ?_⟩
 cases t1 with
 | yield o => exact htr.elim
 | fn g =>
  obtain rfl : f = g := htr
  obtain ⟨m, v1, Fz', H', q1, q2, q3, q4, q5, q6⟩ := hrun c.Fz c.H args1 hs.fz (ARs.dat (c := c) (c' := ⟨[], c.Fz, c.H⟩) (fun o ho => ⟨ho, rfl⟩) args args1 hb ha)
  obtain ⟨r1, r2⟩ := call_keep hs q2 q3 q4 q5
  exact ⟨m, v1, H', q1, ⟨c.hd, Fz', H'⟩, v0, G, rfl, r1, r2, AR.dat (c := ⟨[], Fz', H'⟩) (c' := ⟨c.hd, Fz', H'⟩) (fun o ho => ⟨ho, rfl⟩) v0 v1 hd q6, k⟩
mutual
def LV.flat : LV → Bool
 | .bool _ | .u _ | .b _ | .i _ | .int _ _ | .str _ | .nilPtr | .nilSl | .nilMap | .nilFn | .nilIf => true
 | .agg l => flats l
 | .tup l => flats l
 | _ => false
def flats : List LV → Bool
 | [] => true
 | v :: l => v.flat && flats l
end
mutual
theorem AR.flat {c c' : Cx} (v : LV) (a : AV) (hd : v.flat = true) (h : AR c v a) : AR c' v a := by
 cases v with
 | agg l =>
  simp only [LV.flat] at hd
  cases h with
  | agg h => exact .agg (ARs.flat l _ hd h)
 | tup l =>
  simp only [LV.flat] at hd
  cases h with
  | tup h => exact .tup (ARs.flat l _ hd h)
 | _ => first | (simp only [LV.flat] at hd; cases hd; done) | (cases h; constructor)
termination_by SizeOf.sizeOf v
theorem ARs.flat {c c' : Cx} (l : List LV) (r : List AV) (hd : flats l = true) (h : ARs c l r) : ARs c' l r := by
 cases l with
 | nil => cases h; exact .nil
 | cons v l =>
  simp only [flats, Bool.and_eq_true] at hd
  cases h with
  | cons e es => exact .cons (AR.flat v _ hd.1 e) (ARs.flat l _ hd.2 es)
termination_by SizeOf.sizeOf l
end
end calls
theorem FnS.lives {P : Program} {f : Nat} (ht : callable P f = true ∧ isClone P f = false) (hl : livesF P f = true) (hr : LivesRight P f) : FnS P f [] (.bool true) [] := by
 refine ⟨ht, rfl, fun j ob e => by simp at e, fun Fz H args1 hfz ha => ?_⟩
 cases ha
 refine ⟨1, .bool true, [], H, ?_, .empty hfz, .bool true, Nat.le_refl _, fun _ _ => rfl, fun o ⟨p, _, _, _, e, _⟩ => by simp at e⟩
 unfold callA
 dsimp only
 rw [OL_yes hl hr]
section cuts
variable {P : Program} {f n : Nat} {ro : Option Nat} {ρ : LEnv} {D : List Nat} {G : LHeap} {Q : Post}
end cuts
attribute [simp] borR LV.flat flats
end Go.Sv
namespace Go.Sv
def IterS (P : Program) (fn' : Nat) (first cap : List LV) (Cap : LHeap → Prop) (m : Nat) (xs : Nat → List LV) : Prop :=
 ∀ (t : Nat) (J : Nat → LHeap → Prop) (B : LHeap → Prop) (G : LHeap) (K : LV → LHeap → Prop), (∀ (i : Nat) (G : LHeap), J i G → Cap G) → J 0 G →
  (∀ (i : Nat) (G : LHeap) (K : LV → LHeap → Prop), i < m → J i G → (∀ G', J (i + 1) G' → K (.bool true) G') → (∀ G', B G' → K (.bool false) G') → CallL P (.yield t) (xs i) G K) →
  (∀ G', J m G' → K (.tup []) G') → (∀ G', B G' → K (.tup []) G') → CallL P (.fn fn') (first ++ [.fn (.yield t) [] []] ++ cap) G K
def itbQ (p : Nat) (L : LObj) (I : LHeap → Prop) (E : Ex → LHeap → Prop) : Post := fun x _ D3 G3 => D3 = [] ∧ G3[p]? = some L ∧ G3[p - 1]? = some (.defd true) ∧ match x with
 | .normal => I G3
 | x => E x G3
theorem itbQ_n {p : Nat} {L : LObj} {I : LHeap → Prop} {E : Ex → LHeap → Prop} {ρ : LEnv} {G : LHeap} : itbQ p L I E .normal ρ [] G = (G[p]? = some L ∧ G[p - 1]? = some (.defd true) ∧ I G) := by simp [itbQ]
attribute [simp] itbQ_n
attribute [simp ↓] itbQ_n
noncomputable def itcQ (P : Program) (f n p : Nat) (b : LC) (Lr Lb : LObj) (Q : Post) : Post := fun x ρ2 D2 G3 => match x with
 | .normal => D2 = [] ∧ G3[p]? = some Lr ∧ wp P f n (some p) b ρ2 [] (G3.set p Lb) Q
 | _ => False
theorem itcQ_n {P : Program} {f n p : Nat} {b : LC} {Lr Lb : LObj} {Q : Post} {ρ2 : LEnv} {G3 : LHeap} : itcQ P f n p b Lr Lb Q .normal ρ2 [] G3 = (G3[p]? = some Lr ∧ wp P f n (some p) b ρ2 [] (G3.set p Lb) Q) := by simp [itcQ]
attribute [simp] itcQ_n
attribute [simp ↓] itcQ_n
theorem W_iterA {P : Program} {f n : Nat} {ρ : LEnv} {D : List Nat} {G : LHeap} {Q : Post} {g : Lx} {ps : List Nat} {a b : LC} {fn' : Nat} {first cap : List LV} (hg : g.ev ρ = .fn (.func fn') first cap) {Cap : LHeap → Prop} {m : Nat} {xs : Nat → List LV} (hF : IterS P fn' first cap Cap m xs)
  (hoka : a.ok = true) (hokb : b.ok = true) (hlen : ∀ i, ps.length = (xs i).length) (hlt : ∀ q ∈ ps, q < n) (I : Nat → LHeap → Prop) (E : Ex → LHeap → Prop)
  (hcap : ∀ i G', I i G' → Cap G') (h0 : ∀ x y, I 0 (G ++ [x, y])) (hset : ∀ i G' x, I i G' → I i (G'.set (G.length + 1) x)) (hsetE : ∀ e G' x, E e G' → E e (G'.set (G.length + 1) x))
  (hstep : ∀ (i : Nat) (G2 : LHeap) (Lr Lb : LObj), i < m → I i G2 → G2[G.length + 1]? = some Lr → G2[G.length]? = some (.defd true) → wp P f n (some (G.length + 1)) a (setPsL ps (xs i) ρ) [] G2 (itcQ P f n (G.length + 1) b Lr Lb (itbQ (G.length + 1) Lb (I (i + 1)) E)))
  (hend : ∀ G', I m G' → G'[G.length]? = some (.defd true) → Q .normal ρ (G.length :: D) G') (hbrk : ∀ e G', E e G' → e ≠ .normal → G'[G.length]? = some (.defd true) → Q e ρ (G.length :: D) G') :
  W P f n (.rangeF g ps a b) none ρ D G Q := by
 refine W_range hg fun ca cb aps hca hcb haps => ?_
 generalize hp : G.length + 1 = p at *
 have hd : G.length = p - 1 := by omega
 refine hF p (fun i G' => I i G' ∧ G'[p]? = some (.loop .ready none f n ρ aps ca cb G.length) ∧ G'[G.length]? = some (.defd true))
  (fun G' => ∃ e, e ≠ .normal ∧ E e G' ∧ G'[G.length]? = some (.defd true) ∧ ∃ c, exOf c = some e ∧ G'[p]? = some (.loop .done (some c) f n ρ aps ca cb G.length)) _ _ (fun i G' h => hcap i G' h.1) ⟨h0 _ _, ?_, ?_⟩ ?_ ?_ ?_
 ·rw [← hp]; simp
 ·simp
 ·rintro i G2 K hi ⟨hI, hL, hdf⟩ hK hB
  refine CallL_yield hL hca hcb hoka hokb haps (hlen i) hlt ?_
  have hlp := (List.getElem?_eq_some_iff.1 hL).1
  have h := hstep i G2 _ (.loop .busy none f n ρ aps ca cb G.length) hi hI hL hdf
  refine (wp_W _ h).post (fun x ρ2 D2 G3 hq => ?_)
  cases x with
  | exit id => exact hq.elim
  | ret => exact hq.elim
  | normal =>
   obtain ⟨rfl, hL3, hq⟩ := hq
   refine ⟨rfl, hL3, (wp_W _ hq).post (fun x ρ3 D3 G4 hq => ?_)⟩
   obtain ⟨rfl, q1, q2, q3⟩ := hq
   have hlp4 := (List.getElem?_eq_some_iff.1 q1).1
   refine ⟨rfl, ?_⟩
   rw [q1]
   rw [← hd] at q2
   have q2' : ∀ x, (G4.set p x)[G.length]? = some (.defd true) := fun x => by rw [List.getElem?_set_ne (by omega)]; exact q2
   cases x with
   | normal => exact hK _ ⟨hset _ _ _ q3, List.getElem?_set_self hlp4, q2' _⟩
   | ret => exact hB _ ⟨.ret, by simp, hsetE _ _ _ q3, q2' _, .ret, rfl, List.getElem?_set_self hlp4⟩
   | exit id => exact hB _ ⟨.exit id, by simp, hsetE _ _ _ q3, q2' _, .exit id, rfl, List.getElem?_set_self hlp4⟩
 ·rintro G' ⟨hI, hL, hdf⟩
  simp only [afterL, hL]
  exact ⟨by simp, hend _ (hset _ _ _ hI) (by rw [List.getElem?_set_ne (by omega)]; exact hdf)⟩
 ·rintro G' ⟨e, he, hE, hdf, c, hc, hL⟩
  simp only [afterL, hL, hc]
  exact ⟨by simp, hbrk e _ (hsetE _ _ _ hE) he (by rw [List.getElem?_set_ne (by omega)]; exact hdf)⟩
end Go.Sv
namespace Go.Sv
section stk
variable {b : Nat} {G G' : LHeap} {v : LV} {esz n : Nat} {l x : List LV}
end stk
end Go.Sv
namespace Go.Sv
theorem HSim.freeze' {c : Cx} {G : LHeap} (hs : HSim c G) {p k st : Nat} {x : AV} {ob : LObj} (hG : G[p]? = some ob) (hl : ob.live = true) (hst : ob.st < st) (hp : c.hd[p]? = some (k, x)) :
  HSim ⟨c.hd, fun q => c.Fz q ∨ idOf x = some q, c.H⟩ (G.set p (.dead st)) ∧ Step c G ⟨c.hd, fun q => c.Fz q ∨ idOf x = some q, c.H⟩ (G.set p (.dead st)) := by
 have hpg : p < G.length := (List.getElem?_eq_some_iff.1 hG).1
 have hle : CxLe c ⟨c.hd, fun q => c.Fz q ∨ idOf x = some q, c.H⟩ := ⟨fun p k h e => ⟨k, h, e, Nat.le_refl _, fun _ => rfl, fun _ => rfl⟩, fun q hq => ⟨.inl hq, rfl⟩⟩
 have hino : ∀ q, idOf x = some q → Own c G q := fun q hq => ⟨p, ob, k, x, hG, hl, hp, hq⟩
 have hinv : ∀ {q : Nat} {ob1 : LObj}, (G.set p (.dead st))[q]? = some ob1 → (q = p ∧ ob1 = .dead st) ∨ (q ≠ p ∧ G[q]? = some ob1) := by
  intro q ob1 e
  by_cases hq : q = p
  ·subst hq
   rw [List.getElem?_set_self hpg] at e
   cases e; exact .inl ⟨rfl, rfl⟩
  ·rw [List.getElem?_set_ne (Ne.symm hq)] at e
   exact .inr ⟨hq, e⟩
 have hown : ∀ q, Own ⟨c.hd, fun q => c.Fz q ∨ idOf x = some q, c.H⟩ (G.set p (.dead st)) q → Own c G q ∧ idOf x ≠ some q := by
  rintro q ⟨p1, ob1, k1, h1, e1, e2, e3, e4⟩
  rcases hinv e1 with ⟨_, rfl⟩ | ⟨hne, e1⟩
  ·cases e2
  ·exact ⟨⟨p1, ob1, k1, h1, e1, e2, e3, e4⟩, fun hq => hne (hs.excl p1 p ob1 ob k1 h1 k x q e1 hG e2 hl e3 hp e4 hq)⟩
 refine ⟨⟨by simp [hs.len], fun q hq => hq.elim (hs.fz q) (fun e => hs.lt q (hino q e)), fun q hq => hs.lt q (hown q hq).1, fun q hq hf => hf.elim (hs.sep q (hown q hq).1) (hown q hq).2, fun q ob1 k1 h1 e1 e2 => ?_, ?_⟩, ⟨hle, Nat.le_refl _, fun _ _ _ => rfl, fun q hq => .inl (hown q hq).1, fun q hq => hq.elim .inl (fun e => .inr (.inl (hino q e))), fun q ob1 ob2 e1 e2 => ?_, fun q ob1 ob2 k1 h1 o1 e1 e2 e3 e4 e5 e6 => ?_⟩⟩
 ·rcases hinv e1 with ⟨_, rfl⟩ | ⟨_, e1⟩
  ·trivial
  ·by_cases hl1 : ob1.live = true
   ·exact (hs.obj q ob1 k1 h1 e1 e2).mono hle (fun _ _ => rfl)
   ·cases ob1 <;> first | exact absurd rfl hl1 | trivial
 ·intro q r ob1 ob2 k1 h1 k2 h2 o1 e1 e2 e3 e4 e5 e6 e7 e8
  rcases hinv e1 with ⟨_, rfl⟩ | ⟨_, e1⟩
  ·cases e3
  ·rcases hinv e2 with ⟨_, rfl⟩ | ⟨_, e2⟩
   ·cases e4
   ·exact hs.excl q r ob1 ob2 k1 h1 k2 h2 o1 e1 e2 e3 e4 e5 e6 e7 e8
 ·rcases hinv e2 with ⟨rfl, rfl⟩ | ⟨_, e2⟩
  ·rw [hG] at e1; cases e1
   exact Nat.le_of_lt hst
  ·rw [e1] at e2; cases e2
   exact Nat.le_refl _
 ·rcases hinv e2 with ⟨rfl, rfl⟩ | ⟨_, e2⟩
  ·rw [hG] at e1; cases e1
   have : ob.st = st := e6
   omega
  ·rw [e1] at e2; cases e2
   exact ⟨rfl, rfl, rfl⟩
theorem ARs.parts {c : Cx} : ∀ {a b : List LV} {v : LV} {r : List AV}, ARs c (a ++ v :: b) r → ∃ ra x rb, r = ra ++ x :: rb ∧ ARs c a ra ∧ AR c v x ∧ ARs c b rb
 | [], b, v, r, h => by
  cases h with
  | cons e es => exact ⟨[], _, _, rfl, .nil, e, es⟩
 | w :: a, b, v, r, h => by
  cases h with
  | cons e es =>
   obtain ⟨ra, x, rb, rfl, h1, h2, h3⟩ := ARs.parts (a := a) es
   exact ⟨_ :: ra, x, rb, rfl, .cons e h1, h2, h3⟩
theorem ARs.join {c : Cx} : ∀ {a b : List LV} {v : LV} {ra rb : List AV} {x : AV}, ARs c a ra → AR c v x → ARs c b rb → ARs c (a ++ v :: b) (ra ++ x :: rb)
 | [], _, _, _, _, _, h1, h2, h3 => by cases h1; exact .cons h2 h3
 | _ :: a, _, _, _, _, _, h1, h2, h3 => by
  cases h1 with
  | cons e es => exact .cons e (ARs.join es h2 h3)
end Go.Sv
namespace Go.Sv
theorem HSim.sub {c : Cx} {G : LHeap} (hs : HSim c G) {p len esz ver st : Nat} {l l' : List LV} (hG : G[p]? = some (.dyn l len esz ver st)) (hl : ∀ r, ARs c l r → ARs c l' r) :
  HSim c (G.set p (.dyn l' len esz ver (st + 1))) ∧ Step c G c (G.set p (.dyn l' len esz ver (st + 1))) := by
 have hpg : p < G.length := (List.getElem?_eq_some_iff.1 hG).1
 have hle : CxLe c c := ⟨fun p k h e => ⟨k, h, e, Nat.le_refl _, fun _ => rfl, fun _ => rfl⟩, fun q hq => ⟨hq, rfl⟩⟩
 have hinv : ∀ {q : Nat} {ob1 : LObj}, (G.set p (.dyn l' len esz ver (st + 1)))[q]? = some ob1 → (q = p ∧ ob1 = .dyn l' len esz ver (st + 1)) ∨ (q ≠ p ∧ G[q]? = some ob1) := by
  intro q ob1 e
  by_cases hq : q = p
  ·subst hq
   rw [List.getElem?_set_self hpg] at e
   cases e; exact .inl ⟨rfl, rfl⟩
  ·rw [List.getElem?_set_ne (Ne.symm hq)] at e
   exact .inr ⟨hq, e⟩
 have hback : ∀ {q : Nat} {ob1 : LObj}, (G.set p (.dyn l' len esz ver (st + 1)))[q]? = some ob1 → ob1.live = true → ∃ ob2, G[q]? = some ob2 ∧ ob2.live = true := by
  intro q ob1 e hl1
  rcases hinv e with ⟨rfl, rfl⟩ | ⟨_, e⟩
  ·exact ⟨_, hG, rfl⟩
  ·exact ⟨_, e, hl1⟩
 have hown : ∀ q, Own c (G.set p (.dyn l' len esz ver (st + 1))) q → Own c G q := by
  rintro q ⟨p1, ob1, k1, h1, e1, e2, e3, e4⟩
  obtain ⟨ob2, f1, f2⟩ := hback e1 e2
  exact ⟨p1, ob2, k1, h1, f1, f2, e3, e4⟩
 refine ⟨⟨by simp [hs.len], hs.fz, fun q hq => hs.lt q (hown q hq), fun q hq => hs.sep q (hown q hq), fun q ob1 k1 h1 e1 e2 => ?_, ?_⟩, ⟨hle, Nat.le_refl _, fun _ _ _ => rfl, fun q hq => .inl (hown q hq), fun q hq => .inl hq, fun q ob1 ob2 e1 e2 => ?_, fun q ob1 ob2 k1 h1 o1 e1 e2 e3 e4 e5 e6 => ?_⟩⟩
 ·rcases hinv e1 with ⟨rfl, rfl⟩ | ⟨_, e1⟩
  ·obtain ⟨a1, a2, a3⟩ := hs.obj q _ k1 h1 hG e2
   rcases a3 with ⟨b1, b2⟩ | ⟨o, v, room, t, clen, lr, b1, b2, b3, b4, b5, b6, b7⟩
   ·have hl0 : l = [] := List.eq_nil_of_length_eq_zero (by rw [a2, b2]; simp)
    subst hl0
    have h9 := hl [] .nil
    cases h9
    exact ⟨a1, a2, .inl ⟨b1, b2⟩⟩
   ·have h9 := hl _ b5
    exact ⟨a1, by rw [h9.length, ← b5.length]; exact a2, .inr ⟨o, v, room, t, clen, lr, b1, b2, b3, b4, h9, b6, b7⟩⟩
  ·exact hs.obj q ob1 k1 h1 e1 e2
 ·intro q r ob1 ob2 k1 h1 k2 h2 o1 e1 e2 e3 e4 e5 e6 e7 e8
  obtain ⟨ob3, f1, f2⟩ := hback e1 e3
  obtain ⟨ob4, f3, f4⟩ := hback e2 e4
  exact hs.excl q r ob3 ob4 k1 h1 k2 h2 o1 f1 f3 f2 f4 e5 e6 e7 e8
 ·rcases hinv e2 with ⟨rfl, rfl⟩ | ⟨_, e2⟩
  ·rw [hG] at e1; cases e1
   exact Nat.le_succ _
  ·rw [e1] at e2; cases e2
   exact Nat.le_refl _
 ·rcases hinv e2 with ⟨rfl, rfl⟩ | ⟨_, e2⟩
  ·rw [hG] at e1; cases e1
   have : st = st + 1 := e6
   omega
  ·rw [e1] at e2; cases e2
   exact ⟨rfl, rfl, rfl⟩
section sub
variable {P : Program} {G : LHeap} {p len esz ver st : Nat} {l l' : List LV}
theorem W_cells {f n : Nat} {s : LC} {ro : Option Nat} {ρ : LEnv} {D : List Nat} {Q : Post} (hG : G[p]? = some (.dyn l len esz ver st)) (hl : ∀ c r, ARs c l r → ARs c l' r) (k : W P f n s ro ρ D (G.set p (.dyn l' len esz ver (st + 1))) Q) : W P f n s ro ρ D G Q := by
 intro code c E D1 ro1 h1 h2 h3 h4 h5 h6
 obtain ⟨s1, s2⟩ := h3.sub hG (hl c)
 obtain ⟨m, x, E', D1', c', ρ', D', G', q1, q2, q3, q4, q5, q6⟩ := k code c E D1 ro1 h1 h2 s1 h4 h5 h6
 exact ⟨m, x, E', D1', c', ρ', D', G', q1, q2, Step.trans h3 s1 s2 q3, q4, q5, q6⟩
end sub
end Go.Sv
namespace Go.Sv
end Go.Sv
namespace Go.Sv
theorem HSim.froze {c : Cx} {G : LHeap} (hs : HSim c G) {p k len esz st : Nat} {l : List LV} (hg : G[p]? = some (.dyn l len esz k st)) :
  ∃ c', HSim c' (G.set p (.dead (st + 1))) ∧ Step c G c' (G.set p (.dead (st + 1))) ∧ CxLe c c' ∧ c'.hd = c.hd ∧ c'.H = c.H ∧ (∀ x, AR c (.dy p k) x → AR c' (.lst l len esz) x) ∧ ∀ x, AR c' (.dy p k) x → AR c' (.lst l len esz) x := by
 have hp : p < c.hd.length := by rw [hs.len]; exact (List.getElem?_eq_some_iff.1 hg).1
 obtain ⟨⟨k1, hh⟩, e⟩ : ∃ y, c.hd[p]? = some y := ⟨_, List.getElem?_eq_getElem hp⟩
 obtain ⟨r0, r1, r2⟩ := hs.obj p _ _ _ hg e
 obtain ⟨u1, u2⟩ := hs.freeze' (st := st + 1) hg rfl (Nat.lt_succ_self _) e
 have key : AR ⟨c.hd, fun q => c.Fz q ∨ idOf hh = some q, c.H⟩ (.lst l len esz) hh := by
  rcases r2 with ⟨r2, r3⟩ | ⟨o, v, room, t, clen, l', r2, r3, r4, r5, r6, r7, r8⟩
  ·subst r3
   have hl : l = [] := List.eq_nil_of_length_eq_zero (by simpa using r1)
   subst hl
   rw [r2]; exact .lstNil
  ·have hl' : l'.length = len * esz := by rw [← r6.length]; exact r1
   have hr := readAt_of (i := 0) (n := len * esz) r3 r5 r4 (by omega)
   rw [List.drop_zero, List.take_of_length_le (by omega)] at hr
   rw [r2]
   exact .lst (.inr rfl) (fun r e => (r7 r e).2) r1 hr (r6.mono (r2 ▸ u2.le))
 refine ⟨_, u1, u2, u2.le, rfl, rfl, fun x hx => ?_, fun x hx => ?_⟩
 ·cases hx with
  | @dy _ _ k' h2 _ e2 hk haa hsl =>
   rw [e] at e2
   cases e2
   rw [haa r0.symm]; exact key
 ·cases hx with
  | @dy _ _ k' h2 _ e2 hk haa hsl =>
   have e2 : c.hd[p]? = some (k', h2) := e2
   rw [e] at e2
   cases e2
   rw [haa r0.symm]; exact key
theorem ARs.put {c c' : Cx} {v w : LV} (hle : CxLe c c') (h : ∀ x, AR c v x → AR c' w x) {a b : List LV} {r : List AV} (ha : ARs c (a ++ v :: b) r) : ARs c' (a ++ w :: b) r := by
 obtain ⟨ra, x, rb, rfl, h1, h2, h3⟩ := ha.parts
 exact .join (h1.mono hle) (h x h2) (h3.mono hle)
end Go.Sv
namespace Go.Sv
theorem oldP {G x : LHeap} {i : Nat} (h : i < G.length) : (G ++ x)[i]? = G[i]? := List.getElem?_append_left h
section std
variable {b : Nat} {G G' : LHeap} {v : LV} {esz n : Nat} {l x : List LV}
end std
end Go.Sv
namespace Go.Sv
section deep
variable {P : Program}
end deep
end Go.Sv
namespace Go.Sv
section dys
variable {b : Nat} {G G' : LHeap} {v : LV} {esz n : Nat} {l x : List LV}
end dys
end Go.Sv
namespace Go.Sv
section dys
variable {b : Nat} {G G' : LHeap} {v : LV} {esz n : Nat} {l x : List LV}
end dys
end Go.Sv
namespace Go.Sv
def spl : Nat → LC → LC × LC
 | 0, .seq a b => (a, b)
 | n + 1, .seq a b => (.seq a (spl n b).1, (spl n b).2)
 | _, s => (s, .skip)
def splK : Nat → LC → Bool
 | 0, .seq _ _ => true
 | n + 1, .seq _ b => splK n b
 | _, _ => false
section spl
variable {P : Program} {f n : Nat} {ro : Option Nat}
theorem W_spl {Q : Post} {Φ : LEnv → List Nat → LHeap → Prop} : ∀ (k : Nat) (s : LC) {ρ : LEnv} {D : List Nat} {G : LHeap}, splK k s = true →
  (h1 : ∀ Nx : LEnv → List Nat → LHeap → Prop, (∀ (ρ' : LEnv) (D' : List Nat) (G' : LHeap), Φ ρ' D' G' → Nx ρ' D' G') → wp P f n ro (spl k s).1 ρ D G (nxQ Nx Q)) →
  (h2 : ∀ (ρ' : LEnv) (D' : List Nat) (G' : LHeap), Φ ρ' D' G' → W P f n (spl k s).2 ro ρ' D' G' Q) → W P f n s ro ρ D G Q := by
 suffices H : ∀ (k : Nat) (s : LC) {ρ : LEnv} {D : List Nat} {G : LHeap}, splK k s = true → wp P f n ro (spl k s).1 ρ D G (nxQ (fun ρ' D' G' => W P f n (spl k s).2 ro ρ' D' G' Q) Q) → W P f n s ro ρ D G Q from
  fun k s ρ D G hk h1 h2 => H k s hk (h1 _ h2)
 intro k
 induction k with
 | zero =>
  intro s ρ D G hk h
  cases s with
  | seq a b =>
   refine W_seq ((wp_W a h).post fun x ρ' D' G' q => ?_)
   cases x <;> exact q
  | _ => simp [splK] at hk
 | succ k ih =>
  intro s ρ D G hk h
  cases s with
  | seq a b =>
   simp only [spl] at h
   rw [wp_seq] at h
   refine W_seq ((wp_W a h).post fun x ρ' D' G' q => ?_)
   cases x with
   | normal => exact ih b hk q
   | _ => exact q
  | _ => simp [splK] at hk
theorem W_fz {s : LC} {ρ : LEnv} {D : List Nat} {G : LHeap} {Q : Post} {t p k len esz st : Nat} {l : List LV} (hg : G[p]? = some (.dyn l len esz k st)) (ht : lk ρ t = .dy p k) (h : W P f n s ro ((t, .lst l len esz) :: ρ) D (G.set p (.dead (st + 1))) Q) : W P f n s ro ρ D G Q := by
 intro code c E D1 ro1 h1 h2 h3 h4 h5 h6
 obtain ⟨c1, u1, u2, u3, u4, u7, u5, u6⟩ := h3.froze hg
 have e4 : EnvL c1 ((t, .lst l len esz) :: ρ) E := fun x => by
  by_cases e : x = t
  ·subst e
   have := h4 x
   rw [ht] at this
   simpa using u5 _ this
  ·have := (h4 x).mono u3
   simpa [e] using this
 obtain ⟨m, x, E', D1', c', ρ', D', G', q1, q2, q3, q4, q5, q6⟩ := h code c1 E D1 ro1 h1 h2 u1 e4 (h5.mono u3) (h6.mono u3)
 exact ⟨m, x, E', D1', c', ρ', D', G', u7 ▸ q1, q2, u2.trans h3 u1 q3, q4, q5, q6⟩
theorem call_spl {s : LC} {rs : List RRes} {args : List LV} {G : LHeap} {K : LV → LHeap → Prop} (hf : resFn P f = some ⟨n, s.r, rs⟩) (hok : s.ok = true) (hn : args.length ≤ n) (h : W P f n s none (argsL args 0) [] G (endQ rs K)) : CallL P (.fn f) args G K :=
 CallL_body hf hok hn (h.post fun x ρ D G' k => by
  cases x with
  | normal => exact ⟨trivial, k⟩
  | exit i => exact k.elim
  | ret => exact ⟨trivial, k⟩)
end spl
end Go.Sv
namespace Go.Sv
section dys
variable {b : Nat} {G G' : LHeap} {v : LV} {esz n : Nat} {l x : List LV}
end dys
section fz
variable {P : Program} {f n : Nat} {ro : Option Nat}
theorem W_fzD {s : LC} {ρ : LEnv} {D : List Nat} {G : LHeap} {Q : Post} {a b : List LV} {p q k len esz st sq nq eq vq : Nat} {l : List LV} (hg : G[p]? = some (.dyn l len esz k st)) (hq : G[q]? = some (.dyn (a ++ .dy p k :: b) nq eq vq sq)) (hpq : p ≠ q)
  (h : W P f n s ro ρ D ((G.set p (.dead (st + 1))).set q (.dyn (a ++ .lst l len esz :: b) nq eq vq (sq + 1))) Q) : W P f n s ro ρ D G Q := by
 intro code c E D1 ro1 h1 h2 h3 h4 h5 h6
 obtain ⟨c1, u1, u2, u3, u4, u7, u5, u6⟩ := h3.froze hg
 obtain ⟨w1, w2⟩ := u1.sub (p := q) (st := sq) (l := a ++ .dy p k :: b) (l' := a ++ .lst l len esz :: b) (len := nq) (esz := eq) (ver := vq) (by rw [List.getElem?_set_ne hpq]; exact hq) fun r hr => ARs.put ⟨fun p k h e => ⟨k, h, e, Nat.le_refl _, fun _ => rfl, fun _ => rfl⟩, fun q hq => ⟨hq, rfl⟩⟩ u6 hr
 have e4 : EnvL c1 ρ E := fun x => (h4 x).mono u3
 obtain ⟨m, x, E', D1', c', ρ', D', G', q1, q2, q3, q4, q5, q6⟩ := h code c1 E D1 ro1 h1 h2 w1 e4 (h5.mono u3) (h6.mono u3)
 exact ⟨m, x, E', D1', c', ρ', D', G', u7 ▸ q1, q2, (u2.trans h3 u1 w2).trans h3 w1 q3, q4, q5, q6⟩
end fz
end Go.Sv
namespace Go.Sv
open Go.RowKit Go.ChangeShapes Go.WideShapes Go.ChangeAt
def IsFs (P : Program) (f : TypeId → List LV → Prop) : List Field → List LV → Prop
 | [], L => L = []
 | fd :: l, L => ∃ a b, L = a ++ b ∧ a.length = P.cellsOf fd.type ∧ f fd.type a ∧ IsFs P f l b
def IsV (P : Program) : Nat → TypeId → List LV → Prop
 | 0, _, _ => False
 | d + 1, t, L => match P.underlying t with
  | some .bool => ∃ b : Bool, L = [.bool b]
  | some (.int k) => match k with
   | .u64 => ∃ x, L = [.u x]
   | .u8 => ∃ x, L = [.b x]
   | .i64 => ∃ n, inI n ∧ L = [.i n]
   | k => ∃ n, L = [.int k n]
  | some .string => ∃ l : List UInt8, l.length ≤ maxLen ∧ L = [.str l]
  | some (.slice e) => ∃ xs : List (List LV), xs.length ≤ maxLen ∧ (∀ x ∈ xs, IsV P d e x ∧ x.length = P.cellsOf e) ∧ L = [.lst xs.flatten xs.length (P.cellsOf e)]
  | some (.struct fs) => IsFs P (IsV P d) fs.toList L
  | _ => False
def layB (P : Program) (tot : Nat) : List Field → Nat → Bool
 | [], off => Nat.beq off tot
 | fd :: l, off => Nat.beq fd.offset off && layB P tot l (off + P.cellsOf fd.type)
def memT (t : TypeId) : List TypeId → Bool
 | [] => false
 | a :: l => Nat.beq t a || memT t l
def okTs (P : Program) (S : List TypeId) : List TypeId → Bool
 | [] => true
 | t :: l => (match P.underlying t with
  | some .bool => true
  | some (.int _) => true
  | some .string => true
  | some (.slice e) => memT e S && Nat.ble 1 (P.cellsOf e)
  | some (.struct fs) => layB P (P.cellsOf t) fs.toList 0 && fs.toList.all fun fd => memT fd.type S
  | _ => false) && okTs P S l
theorem memT_iff {t : TypeId} : ∀ {l : List TypeId}, memT t l = true ↔ t ∈ l
 | [] => by simp [memT]
 | a :: l => by
  simp only [memT, Bool.or_eq_true, memT_iff (l := l), List.mem_cons]
  constructor
  ·rintro (h | h)
   ·exact .inl (Nat.eq_of_beq_eq_true h)
   ·exact .inr h
  ·rintro (h | h)
   ·exact .inl (by rw [h]; exact Nat.beq_refl a)
   ·exact .inr h
theorem okTs_at {P : Program} {S : List TypeId} {t : TypeId} : ∀ {l : List TypeId}, okTs P S l = true → t ∈ l → (match P.underlying t with
  | some .bool => true
  | some (.int _) => true
  | some .string => true
  | some (.slice e) => memT e S && Nat.ble 1 (P.cellsOf e)
  | some (.struct fs) => layB P (P.cellsOf t) fs.toList 0 && fs.toList.all fun fd => memT fd.type S
  | _ => false) = true
 | [], _, h => by cases h
 | a :: l, h, ht => by
  unfold okTs at h
  rw [Bool.and_eq_true] at h
  rcases List.mem_cons.1 ht with rfl | ht
  ·exact h.1
  ·exact okTs_at h.2 ht
mutual
def szV : LV → Nat
 | .lst l _ _ => szVs l + 1
 | .agg l => szVs l
 | _ => 1
def szVs : List LV → Nat
 | [] => 0
 | v :: l => szV v + szVs l
end
theorem szVs_app : ∀ (l r : List LV), szVs (l ++ r) = szVs l + szVs r
 | [], r => by simp [szVs]
 | v :: l, r => by rw [List.cons_append, szVs, szVs, szVs_app l r]; omega
structure BkOk {HH : Type} (bk : DataW HH → Nat) (bks : List (DataW HH) → Nat) : Prop where
 lit : ∀ l, 1 ≤ bk (.lit l)
 nil : 1 ≤ bk .nil
 slice : ∀ e s, bks e + 1 ≤ bk (.slice e s)
 agg : ∀ p, bks p ≤ bk (.agg p)
 cons : ∀ d r, bks (d :: r) = bk d + bks r
 none : bks [] = 0
theorem BkOk.app {HH : Type} {bk : DataW HH → Nat} {bks : List (DataW HH) → Nat} (B : BkOk bk bks) : ∀ l r, bks (l ++ r) = bks l + bks r
 | [], r => by rw [B.none]; simp
 | d :: l, r => by rw [List.cons_append, B.cons, B.cons, B.app l r]; omega
theorem BkOk.take {HH : Type} {bk : DataW HH → Nat} {bks : List (DataW HH) → Nat} (B : BkOk bk bks) (l : List (DataW HH)) (n : Nat) : bks (l.take n) ≤ bks l := by
 have := B.app (l.take n) (l.drop n)
 rw [List.take_append_drop] at this
 omega
section imp
variable {HH : Type} {enc : TypeId × Value → HH} {P : Program} {W : World} {S : List TypeId} {bk : DataW HH → Nat} {bks : List (DataW HH) → Nat}
def GotV (W : World) (C : CM) (H : Heap) (cs : List Value) (Q : List LV → Prop) : Prop :=
 ∃ C' H' as lvs, C.le C' ∧ Rel W C' H' W ∧ Grow H H' ∧ VRs C' as cs ∧ (∀ a ∈ as, a.one = true) ∧ Q lvs ∧ ARs (outC H') lvs as
theorem gotv_one {C : CM} {H : Heap} (hR : Rel W C H W) {v : Value} {Q : List LV → Prop} (a : AV) (l : LV) (hq : Q [l]) (hv : VR C a v) (h1 : a.one = true) (hl : AR (outC H) l a) : GotV W C H [v] Q :=
 ⟨C, H, [a], [l], CM.le_refl C, hR, .refl H, .cons hv .nil, by simpa using h1, hq, .cons hl .nil⟩
theorem VRs.len {C : CM} : ∀ {as : List AV} {cs : List Value}, VRs C as cs → as.length = cs.length
 | _, _, .nil => rfl
 | _, _, .cons _ h => by simp [VRs.len h]
theorem got_isv (B : BkOk bk bks) (hok : okTs P S S = true) : ∀ (fuel : Nat) (t : TypeId) (cs : List Value) (x : DataW HH × List MemPlace) (C : CM) (H : Heap), t ∈ S → DataW.trod enc P W 0 (fun _ => true) true fuel t cs = some x → W.noneFrozen x.2 → Rel W C H W →
  GotV W C H cs (fun L => IsV P fuel t L ∧ szVs L ≤ bk x.1) := by
 intro fuel
 induction fuel with
 | zero => intro t cs x C H _ h; simp [DataW.trod] at h
 | succ fuel ih =>
  intro t cs x C H hts h hz hR
  have ht := okTs_at hok hts
  split at ht
  ·rename_i hu
   obtain ⟨b, rfl, rfl⟩ := DataW.trod_bool hu h
   exact gotv_one hR (.bool b) (.bool b) ⟨by simp only [IsV, hu]; exact ⟨b, rfl⟩, B.lit _⟩ (.bool b) rfl (.bool b)
  ·rename_i k hu
   obtain ⟨n, rfl, rfl, hw⟩ := DataW.trod_int hu h
   by_cases e1 : k = .u64
   ·subst e1
    have hb := bounds_u64 hw
    refine gotv_one hR (.int .u64 n) (.u (UInt64.ofNat n.toNat)) ⟨by simp only [IsV, hu]; exact ⟨_, rfl⟩, B.lit _⟩ (.int _ _) rfl (.u' ?_)
    rw [UInt64.toNat_ofNat']
    simp only [Int.ofNat_eq_natCast]
    omega
   by_cases e2 : k = .u8
   ·subst e2
    have hb := bounds_u8 hw
    refine gotv_one hR (.int .u8 n) (.b (UInt8.ofNat n.toNat)) ⟨by simp only [IsV, hu]; exact ⟨_, rfl⟩, B.lit _⟩ (.int _ _) rfl (.b' ?_)
    rw [UInt8.toNat_ofNat']
    simp only [Int.ofNat_eq_natCast]
    omega
   by_cases e3 : k = .i64
   ·subst e3
    have hb := bounds_i64 hw
    exact gotv_one hR (.int .i64 n) (.i n) ⟨by simp only [IsV, hu]; exact ⟨n, by unfold inI; omega, rfl⟩, B.lit _⟩ (.int _ _) rfl (.i n)
   refine gotv_one hR (.int k n) (.int k n) ⟨?_, B.lit _⟩ (.int _ _) rfl (.int k n)
   simp only [IsV, hu]
   exact ⟨n, rfl⟩
  ·rename_i hu
   obtain ⟨b, rfl, rfl, hm⟩ := DataW.trod_string hu h
   exact gotv_one hR (.str b.data.toList.length (packL b.data.toList)) (.str b.data.toList) ⟨by simp only [IsV, hu]; exact ⟨b.data.toList, by simpa using hm, rfl⟩, B.lit _⟩ (.str rfl rfl) rfl (.str _)
  ·rename_i e hu
   rw [Bool.and_eq_true] at ht
   have heS := memT_iff.1 ht.1
   have hpos : 0 < P.cellsOf e := Nat.le_of_ble_eq_true ht.2
   have isv : ∀ (xs : List (List LV)), xs.length ≤ maxLen → (∀ x ∈ xs, IsV P fuel e x ∧ x.length = P.cellsOf e) → IsV P (fuel + 1) t [.lst xs.flatten xs.length (P.cellsOf e)] := fun xs h1 h2 => by
    simp only [IsV, hu]; exact ⟨xs, h1, h2, rfl⟩
   rcases DataW.trod_slice hu h with ⟨rfl, rfl⟩ | ⟨a, len, cap, elems, rest, n, hn, rfl, hx, _, hle, hmax, hlen, hel, hsp, _⟩
   ·exact gotv_one hR .nilSl (.lst [] 0 (P.cellsOf e)) ⟨isv [] (by simp) (by simp), B.nil⟩ .nilSl rfl .lstNil
   ·cases hn
    by_cases h0 : len = 0
    ·subst h0
     exact gotv_one hR .emp (.lst [] 0 (P.cellsOf e)) ⟨isv [] (by simp) (by simp), by rw [hx]; exact Nat.le_trans (Nat.le_add_left 1 _) (B.slice _ _)⟩ .emp rfl .lstEmp
    ·-- the elements, one behind the other
     obtain ⟨b, off, spot⟩ := a
     obtain ⟨z, hzn⟩ : ∃ z, z = P.cellsOf e := ⟨_, rfl⟩
     have hce : P.cellsOf e = z := hzn.symm
     rw [hce] at hpos
     have hsome : ∀ i, i < cap → ∃ ecs, W.cells? 0 ((⟨b, off, spot⟩ : Addr).add (i * P.cellsOf e)) (P.cellsOf e) = some ecs := by
      intro i hi
      by_cases hil : i < len
      ·have := hel i hil
       rw [List.getElem?_eq_getElem (by omega)] at this
       cases hq : W.cells? 0 ((⟨b, off, spot⟩ : Addr).add (i * P.cellsOf e)) (P.cellsOf e) with
       | none => rw [hq] at this; cases this
       | some ecs => exact ⟨ecs, rfl⟩
      ·obtain ⟨hr1, hr2⟩ := hsp rfl
       have := hr2 (i - len) (by omega)
       rw [show len + (i - len) = i from by omega, List.getElem?_eq_getElem (by omega)] at this
       cases hq : W.cells? 0 ((⟨b, off, spot⟩ : Addr).add (i * P.cellsOf e)) (P.cellsOf e) with
       | none => rw [hq] at this; cases this
       | some ecs => exact ⟨ecs, rfl⟩
     have hspot : spot = none := by
      obtain ⟨ecs, he⟩ := hsome 0 (by omega)
      obtain ⟨_, hl, hcell⟩ := World.cells?_some he
      have := hcell 0 (by omega)
      rw [List.getElem?_eq_getElem (by omega)] at this
      simpa [Addr.add] using World.cell?_spot this
     subst hspot
     have hcells : ∀ i j, i < cap → j < z → ∃ v, W.cell? ⟨b, off + (i * z + j), none⟩ = some v := by
      intro i j hi hj
      obtain ⟨ecs, he⟩ := hsome i hi
      obtain ⟨_, hl, hcell⟩ := World.cells?_some he
      have := hcell j (by omega)
      rw [List.getElem?_eq_getElem (by omega)] at this
      rw [hce] at this
      rw [WideShapes.add_plain, WideShapes.add_plain] at this
      rw [← Nat.add_assoc]
      exact ⟨_, this⟩
     obtain ⟨v0, hv0⟩ := hcells 0 0 (by omega) hpos
     obtain ⟨vs, ty, lo, hi, hblk⟩ : ∃ vs ty lo hi, W.heap[b]? = some (.cells vs ty (lo, hi)) := by
      unfold World.cell? at hv0
      dsimp only at hv0
      split at hv0
      ·rename_i vs ty fz hblk; exact ⟨vs, ty, fz.1, fz.2, hblk⟩
      ·cases hv0
     have hcv : ∀ q, q < cap * z → ∃ v, vs[off + q]? = some v := by
      intro q hq
      obtain ⟨v, hv⟩ := hcells (q / z) (q % z) (by rw [Nat.div_lt_iff_lt_mul hpos]; exact hq) (Nat.mod_lt _ hpos)
      have : q / z * z + q % z = q := by rw [Nat.mul_comm]; exact Nat.div_add_mod q z
      rw [this, cell_at hblk] at hv
      exact ⟨v, hv⟩
     have hvsz : off + cap * z ≤ vs.size := by
      have hcpos : 0 < cap * z := Nat.mul_pos (by omega) hpos
      obtain ⟨v, hv⟩ := hcv (cap * z - 1) (by omega)
      have := (Array.getElem?_eq_some_iff.1 hv).1
      omega
     have hrow : ∀ x', x' ∈ MemPlace.row ⟨b, off, none⟩ (cap * z) → x' ∈ x.2 := by
      intro x' hx'
      rw [hx]
      have : (elems.length + rest.length) * P.cellsOf e = cap * z := by rw [hlen, (hsp rfl).1, hce]; congr 1; omega
      rw [this]
      exact List.mem_append_left _ hx'
     have loop : ∀ m, m ≤ len → ∃ C' H' as, ∃ ys : List (List LV), C.le C' ∧ Rel W C' H' W ∧ Grow H H' ∧ (∀ a ∈ as, a.one = true) ∧ ARs (outC H') ys.flatten as ∧ ys.length = m ∧ as.length = m * z ∧ (∀ y ∈ ys, IsV P fuel e y ∧ y.length = P.cellsOf e) ∧ szVs ys.flatten ≤ bks ((elems.map (·.1)).take m) ∧ ∀ q, q < m * z → ∃ a v, as[q]? = some a ∧ vs[off + q]? = some v ∧ VR C' a v := by
      intro m
      induction m with
      | zero => intro _; exact ⟨C, H, [], [], CM.le_refl C, hR, .refl H, by simp, .nil, rfl, by simp, by simp, by simp [szVs], fun q hq => by omega⟩
      | succ m ihm =>
       intro hm
       obtain ⟨C1, H1, as1, ys1, a1, a2, a3, a4, a5, a6, a7, a9, a10, a8⟩ := ihm (by omega)
       obtain ⟨ecs, he⟩ := hsome m (by omega)
       have hem := hel m (by omega)
       rw [he, List.getElem?_eq_getElem (by omega)] at hem
       obtain ⟨_, hl, hcell⟩ := World.cells?_some he
       have hz' : W.noneFrozen (elems[m]'(by omega)).2 := fun b' off' hb' => hz b' off' (by
        rw [hx]
        exact List.mem_append_right _ (List.mem_flatMap.2 ⟨elems[m]'(by omega), by simp, hb'⟩))
       obtain ⟨C2, H2, as2, y, b1, b2, b3, b4, b5, ⟨b6, b8⟩, b7⟩ := ih e ecs _ C1 H1 heS hem hz' a2
       have hy : as2.length = z := by rw [VRs.len b4, ← hce]; omega
       refine ⟨C2, H2, as1 ++ as2, ys1 ++ [y], CM.le_trans a1 b1, b2, a3.trans b3, ?_, ?_, by simp [a6], ?_, ?_, ?_, ?_⟩
       ·intro z hz
        rcases List.mem_append.1 hz with h | h
        ·exact a4 z h
        ·exact b5 z h
       ·rw [List.flatten_append]
        refine (a5.mono b3.le).append ?_
        simpa using b7
       ·rw [List.length_append, a7, hy, Nat.add_mul, Nat.one_mul]
       ·intro w hw
        rcases List.mem_append.1 hw with h | h
        ·exact a9 w h
        ·rw [List.mem_singleton.1 h]
         exact ⟨b6, by rw [hce, ← hy]; exact b7.length⟩
       ·have hml : m < (elems.map (·.1)).length := by rw [List.length_map]; omega
        rw [List.flatten_append, szVs_app, List.take_succ_eq_append_getElem hml, B.app, B.cons, B.none]
        have : szVs [y].flatten = szVs y := by simp
        rw [this]
        simp only [List.getElem_map]
        omega
       ·intro q hq
        by_cases hqm : q < m * z
        ·obtain ⟨a, v, c1, c2, c3⟩ := a8 q hqm
         exact ⟨a, v, by rw [List.getElem?_append_left (by omega)]; exact c1, c2, c3.mono b1⟩
        ·have hq2 : q - m * z < z := by rw [Nat.add_mul, Nat.one_mul] at hq; omega
         obtain ⟨a, v, c1, c2, c3⟩ := b4.get' (i := q - m * z) (by omega)
         refine ⟨a, v, by rw [List.getElem?_append_right (by omega), a7]; exact c1, ?_, c3⟩
         have := hcell (q - m * z) (by omega)
         rw [hce, WideShapes.add_plain, WideShapes.add_plain, cell_at hblk, c2] at this
         rw [← this]
         congr 1
         omega
     obtain ⟨C1, H1, as, ys, a1, a2, a3, a4, a5, a6, a7, a9, a10, a8⟩ := loop len (Nat.le_refl _)
     have hbl : b < W.heap.size := by
      have := (Array.getElem?_eq_some_iff.1 hblk).1
      exact this
     have hmle : len * z ≤ cap * z := Nat.mul_le_mul_right _ hle
     have hnf : ∀ q, off ≤ q → q < off + cap * z → ¬ (lo ≤ q ∧ q < hi) := by
      intro q h1 h2
      have := not_frozen_row hz (fun x' hx' => hrow x' hx') (i := q - off) (n := cap * z) (by omega)
      rw [show off + (q - off) = q from by omega] at this
      unfold World.frozen? at this
      dsimp only at this
      rw [hblk] at this
      simp at this
      omega
     obtain ⟨c1, c2⟩ := a2.ro (L := ⟨b, off, len * z, off + cap * z⟩) hbl (l := as) (fun hle' L hL => by
      rw [CM.ext_same] at hL
      cases hL
      refine ⟨by rw [a7], fun e => (by cases e), by show off + as.length ≤ off + cap * z; omega, vs, ty, lo, hi, hblk, hvsz, hnf, ?_⟩
      intro q hq
      rw [get_ofList, if_pos (by omega)]
      obtain ⟨a, v, d1, d2, d3⟩ := a8 q (by omega)
      exact ⟨a, by simpa using d1, a4 a (List.mem_of_getElem? d1), v, d2, d3.mono hle'⟩)
     have hg : Grow H1 (H1.push (.cells (ofListFrom as 0 .e) as.length 0 true)) := ⟨Nat.le_succ _, fun o ho => Heap.get_push_ne _ _ ho⟩
     refine ⟨_, _, [.sl H1.next 0 0 len z none], [.lst ys.flatten ys.length (P.cellsOf e)], CM.le_trans a1 c2, c1, a3.trans hg, .cons ?_ .nil, by simp [AV.one], ⟨isv ys (by omega) a9, ?_⟩, ?_⟩
     ·exact VR.sl (L := ⟨b, off, len * z, off + cap * z⟩) (i := 0) (CM.ext_same _ _ _ _) (by dsimp only; omega) (by dsimp only; omega) hle (fun r e => by cases e) (fun _ => rfl)
     ·have h1 := B.take (elems.map (·.1)) len
      have h2 := B.slice (elems.map (·.1)) (rest.map (·.1))
      rw [hx]
      simp only [szVs, szV]
      omega
     ·rw [a6, hce]
      refine .cons (.lst (Nat.lt_succ_self H1.next) (fun r e => by cases e) ?_ ?_ (a5.mono hg.le)) .nil
      ·have := a5.length
       omega
      ·have hr := readAt_of (H := H1.push (.cells (ofListFrom as 0 .e) as.length 0 true)) (i := 0) (n := len * z) (Heap.get_push_same _ _) (getCells_new as) (Nat.le_refl _) (by omega)
       rw [List.drop_zero, List.take_of_length_le (by omega)] at hr
       exact hr
  ·rename_i fs hu
   rw [Bool.and_eq_true] at ht
   obtain ⟨hlay, hin⟩ := ht
   have hin := List.all_eq_true.1 hin
   obtain ⟨xs, n, hn, hx, hcl, hxl, hfs⟩ := DataW.trod_struct hu h
   cases hn
   have key : ∀ (fl : List Field) (j off : Nat) (C : CM) (H : Heap), fs.toList.drop j = fl → layB P (P.cellsOf t) fl off = true → Rel W C H W → GotV W C H (cs.drop off) (fun L => IsFs P (IsV P fuel) fl L ∧ szVs L ≤ bks ((xs.map (·.1)).drop j)) := by
    intro fl
    induction fl with
    | nil =>
     intro j off C H hj hl hR
     have he : off = P.cellsOf t := Nat.eq_of_beq_eq_true hl
     refine ⟨C, H, [], [], CM.le_refl C, hR, .refl H, ?_, by simp, ⟨rfl, by simp [szVs]⟩, .nil⟩
     rw [he, ← hcl, List.drop_length]
     exact .nil
    | cons fd fl ihf =>
     intro j off C H hj hl hR
     simp only [layB, Bool.and_eq_true] at hl
     have ho : fd.offset = off := Nat.eq_of_beq_eq_true hl.1
     have hjl : j < fs.toList.length := by
      rcases Nat.lt_or_ge j fs.toList.length with h | h
      ·exact h
      ·rw [List.drop_eq_nil_of_le h] at hj; cases hj
     have hfd : fs[j]? = some fd := by
      rw [List.drop_eq_getElem_cons hjl] at hj
      injection hj with h1 h2
      rw [← h1]
      simp
     have hfm : fd ∈ fs.toList := by
      rw [List.drop_eq_getElem_cons hjl] at hj
      injection hj with h1 h2
      rw [← h1]; exact List.getElem_mem _
     have hfj := hfs j fd hfd
     rw [ho] at hfj
     have hxj : j < xs.length := by rw [hxl]; simpa using hjl
     rw [List.getElem?_eq_getElem hxj] at hfj
     obtain ⟨C1, H1, as1, y, a1, a2, a3, a4, a5, ⟨a6, a8⟩, a7⟩ := ih fd.type _ _ C H (memT_iff.1 (hin fd hfm)) hfj (fun b' off' hb' => hz b' off' (by rw [hx]; exact List.mem_flatMap.2 ⟨_, by simp, hb'⟩)) hR
     obtain ⟨C2, H2, as2, ys, b1, b2, b3, b4, b5, ⟨b6, b8⟩, b7⟩ := ihf (j + 1) (off + P.cellsOf fd.type) C1 H1 (by rw [List.drop_eq_getElem_cons hjl] at hj; injection hj) hl.2 a2
     have hyl : y.length = P.cellsOf fd.type := by
      rw [a7.length, VRs.len a4]
      have : layB P (P.cellsOf t) fl (off + P.cellsOf fd.type) = true := hl.2
      have hle : ∀ (fl : List Field) (o : Nat), layB P (P.cellsOf t) fl o = true → o ≤ P.cellsOf t := by
       intro fl
       induction fl with
       | nil => intro o ho; have := Nat.eq_of_beq_eq_true ho; omega
       | cons g fl ihg =>
        intro o ho
        simp only [layB, Bool.and_eq_true] at ho
        have := ihg _ ho.2
        omega
      have := hle fl _ this
      rw [List.length_take, List.length_drop]
      omega
     refine ⟨C2, H2, as1 ++ as2, y ++ ys, CM.le_trans a1 b1, b2, a3.trans b3, ?_, ?_, ⟨⟨y, ys, rfl, hyl, a6, b6⟩, ?_⟩, (a7.mono b3.le).append b7⟩
     ·have := (a4.mono b1).append b4
      rwa [← List.drop_drop, List.take_append_drop] at this
     ·intro z hz
      rcases List.mem_append.1 hz with h | h
      ·exact a5 z h
      ·exact b5 z h
     ·have hxj2 : j < (xs.map (·.1)).length := by rw [List.length_map]; omega
      rw [szVs_app, List.drop_eq_getElem_cons hxj2, B.cons]
      simp only [List.getElem_map]
      omega
   have := key fs.toList 0 0 C H (by simp) hlay hR
   rw [List.drop_zero] at this
   obtain ⟨C', H', as, lvs, q1, q2, q3, q4, q5, ⟨q6, q8⟩, q7⟩ := this
   refine ⟨C', H', as, lvs, q1, q2, q3, q4, q5, ⟨by simp only [IsV, hu]; exact q6, ?_⟩, q7⟩
   rw [hx]
   exact Nat.le_trans q8 (by rw [List.drop_zero]; exact B.agg _)
  ·cases ht
end imp
def ArgV (P : Program) (t : TypeId) (v : LV) : Prop := ∃ d, match P.underlying t with
 | some (.struct _) => ∃ L, IsV P d t L ∧ v = .agg L
 | _ => IsV P d t [v]
def ArgsV (P : Program) : List TypeId → List LV → Prop
 | [], [] => True
 | t :: ts, v :: vs => ArgV P t v ∧ ArgsV P ts vs
 | _, _ => False
section law
variable {H : Type} {enc : TypeId × Value → H} {P : Program} {S : List TypeId} {bk : DataW H → Nat} {bks : List (DataW H) → Nat}
theorem args_gotV (B : BkOk bk bks) (hok : okTs P S S = true) {W : World} {base : Nat} : ∀ {ts : List TypeId} {args : List Value} {ds : List (DataW H)} {ps : List MemPlace} {C : CM} {Hp : Heap}, (∀ t ∈ ts, t ∈ S) → DataW.TrodAll enc P W 0 (fun _ => true) true ts args ds ps → W.noneFrozen ps →
  (∀ (j : Nat) (t : TypeId) (v : Value), ts[j]? = some t → args[j]? = some v → Value.okWide P W .any base t v) → Rel W C Hp W → ∃ C' H' as lvs, C.le C' ∧ Rel W C' H' W ∧ Grow Hp H' ∧ VRs C' as args ∧ (ArgsV P ts lvs ∧ szVs lvs ≤ bks ds) ∧ ARs (outC H') lvs as
 | [], args, ds, ps, C, Hp, hs, hA, _, _, hR => by
  obtain ⟨rfl, _, _⟩ := trodAll_nil hA
  exact ⟨C, Hp, [], [], CM.le_refl C, hR, .refl Hp, .nil, ⟨trivial, by simp [szVs]⟩, .nil⟩
 | t :: ts, args, ds, ps, C, Hp, hs, hA, hz, hv, hR => by
  obtain ⟨v, vs, dd, ds', p, q, rfl, rfl, rfl, ⟨fuel, hd⟩, hrest⟩ := trodAll_cons hA
  obtain ⟨C1, H1, as1, lv1, a1, a2, a3, a4, a5, ⟨a6, a8⟩, a7⟩ := got_isv B hok fuel t _ _ C Hp (hs t (by simp)) hd (fun b o hb => hz b o (List.mem_append_left _ hb)) hR
  obtain ⟨C2, H2, as2, lvs, b1, b2, b3, b4, ⟨b5, b7⟩, b6⟩ := args_gotV B hok (C := C1) (Hp := H1) (fun t' h => hs t' (by simp [h])) hrest (fun b o hb => hz b o (List.mem_append_right _ hb)) (fun j t' v' h1 h2 => hv (j + 1) t' v' (by simpa using h1) (by simpa using h2)) a2
  have hokv := hv 0 t v rfl rfl
  have one : ∃ a l, VR C1 a v ∧ AR (outC H1) l a ∧ ArgV P t l ∧ szV l = szVs lv1 := by
   have single : (∀ fs, P.underlying t ≠ some (.struct fs)) → v.cells.toList = [v] → ∃ a l, VR C1 a v ∧ AR (outC H1) l a ∧ ArgV P t l ∧ szV l = szVs lv1 := by
    intro e1 e3
    rw [e3] at a4
    cases a4 with
    | cons h1 h2 =>
     cases h2
     cases a7 with
     | cons h3 h4 =>
      cases h4
      refine ⟨_, _, h1, h3, ⟨fuel, ?_⟩, by simp [szVs]⟩
      split
      ·rename_i fs hu; exact absurd hu (e1 fs)
      ·exact a6
   have ht := okTs_at hok (hs t (by simp))
   split at ht
   ·rename_i hu
    obtain ⟨b, rfl⟩ := okWide_bool hu hokv
    exact single (fun fs h => by rw [hu] at h; cases h) rfl
   ·rename_i k hu
    obtain ⟨n, rfl⟩ := okWide_int hu hokv
    exact single (fun fs h => by rw [hu] at h; cases h) rfl
   ·rename_i hu
    obtain ⟨b, rfl⟩ := okWide_string hu hokv
    exact single (fun fs h => by rw [hu] at h; cases h) rfl
   ·rename_i e hu
    obtain ⟨a, len, cap, rfl⟩ := okWide_slice hu hokv
    exact single (fun fs h => by rw [hu] at h; cases h) rfl
   ·rename_i fs hu
    obtain ⟨cs, rfl, _⟩ := okWide_struct hu hokv
    exact ⟨.agg as1, .agg lv1, .agg a4 a5, .agg a7, ⟨fuel, by simp only [hu]; exact ⟨lv1, a6, rfl⟩⟩, by simp only [szV]⟩
   ·cases ht
  obtain ⟨a, l, o1, o2, o3, o4⟩ := one
  exact ⟨C2, H2, a :: as2, l :: lvs, CM.le_trans a1 b1, b2, a3.trans b3, .cons (o1.mono b1) b4, ⟨⟨o3, b5⟩, by rw [szVs, B.cons]; dsimp only at a8; omega⟩, .cons (o2.mono b3.le) b6⟩
theorem walk_rec (B : BkOk bk bks) {f base : Nat} {ts : List TypeId} (hm : P.follows .mixedOrders = true) (hok : okTs P S S = true) (hts : ∀ t ∈ ts, t ∈ S) {W : World} {args : Array Value} {ds : List (DataW H)} {ps : List MemPlace} (h : ∀ y : List LV, ArgsV P ts y → szVs y ≤ bks ds → CallL P (.fn f) y [] fun v _ => v = .bool true)
  (hA : DataW.TrodAll enc P W 0 (fun _ => true) true ts args.toList ds ps) (hz : W.noneFrozen ps) (hv : ∀ (j : Nat) (t : TypeId) (v : Value), ts[j]? = some t → args.toList[j]? = some v → Value.okWide P W .any base t v) :
  Calls P f args W fun e w' => e = .returned (.bool true) ∧ Below W.heap.size W w' := by
 obtain ⟨C, Hp, as, y, _, hR, _, hV, ⟨hy, hsz⟩, hAs⟩ := args_gotV B hok hts hA hz hv (Rel.start W)
 obtain ⟨m, v1, H', q1, c', v, G', q2, q3, q4, q5, q6⟩ := (h y hy hsz).2 (outC Hp) (.fn f) as (HSim.empty (fun o ho => ho)) rfl hAs
 subst q6
 cases q5
 intro cs
 obtain ⟨C', w', v', fr, h1, h2, h3, h4, h5, h6⟩ := callA_sound hm (OL_sound P) m W _ _ W (.fn f) as _ _ _ hR hV q1 cs
 cases h3
 exact ⟨.returned (.bool true), w', fr, ⟨rfl, h2.low⟩, h4, h5, h6⟩
end law
end Go.Sv
namespace Go.Sv
def val : List UInt64 → Nat
 | [] => 0
 | x :: l => x.toNat + 18446744073709551616 * val l
def toLf : Nat → Nat → List UInt64
 | 0, _ => []
 | f + 1, n => if n = 0 then [] else UInt64.ofNat n :: toLf f (n / 18446744073709551616)
def toL (n : Nat) : List UInt64 := toLf n n
theorem opened : (∀ a b, addU a b = a + b) ∧ (∀ a b, subU a b = a - b) ∧ (∀ a b, mulU a b = a * b) := ⟨addU_eq, subU_eq, mulU_eq⟩
end Go.Sv
namespace Go.Sv
end Go.Sv
namespace Go.Sv
end Go.Sv
namespace Go.Sv
end Go.Sv
namespace Go.Sv
def subM (a b n : Nat) : Nat := (a % n + n - b % n) % n
noncomputable def invN (a n : Nat) : Nat := by
 classical exact if h : ∃ x, x < n ∧ a * x % n = 1 % n then h.choose else 0
def oddL (n : List UInt64) : Bool := decide (n.getD 0 0 % 2 = 1)
noncomputable def reR (t n : List UInt64) (l : Int) : List UInt64 := if oddL n = true ∧ 0 ≤ l ∧ l ≤ 512 then toL (val t * invN (2 ^ (64 * l.toNat) % val n) (val n) % val n) else []
end Go.Sv
namespace Go.Sv
abbrev Tm := List UInt8 × Int
def tmC (l : List Tm) : List LV := l.flatMap fun t => [.str t.1, .i t.2]
theorem tmC_length : ∀ l : List Tm, (tmC l).length = l.length * 2
 | [] => rfl
 | _ :: l => by simp only [tmC, List.flatMap_cons, List.length_append, List.length_cons, List.length_nil]; rw [← tmC, tmC_length l]; omega
theorem tmC_cons (t : Tm) (l : List Tm) : tmC (t :: l) = .str t.1 :: .i t.2 :: tmC l := rfl
theorem tm_at0 : ∀ (l : List Tm) (i : Nat), (tmC l)[i * 2]? = l[i]?.map fun t => .str t.1
 | [], i => by simp [tmC]
 | t :: l, 0 => by simp [tmC_cons]
 | t :: l, i + 1 => by rw [tmC_cons, show (i + 1) * 2 = i * 2 + 1 + 1 by omega, List.getElem?_cons_succ, List.getElem?_cons_succ, tm_at0 l i]; simp
theorem tm_at1 : ∀ (l : List Tm) (i : Nat), (tmC l)[i * 2 + 1]? = l[i]?.map fun t => .i t.2
 | [], i => by simp [tmC]
 | t :: l, 0 => by simp [tmC_cons]
 | t :: l, i + 1 => by rw [tmC_cons, show (i + 1) * 2 + 1 = i * 2 + 1 + 1 + 1 by omega, List.getElem?_cons_succ, List.getElem?_cons_succ, tm_at1 l i]; simp
theorem tm_two : ∀ (l : List Tm) (i : Nat) (t : Tm), l[i]? = some t → ((tmC l).drop (i * 2)).take 2 = [.str t.1, .i t.2]
 | [], i, t, h => by simp at h
 | u :: l, 0, t, h => by simp at h; subst h; simp [tmC_cons]
 | u :: l, i + 1, t, h => by
  rw [tmC_cons, show (i + 1) * 2 = i * 2 + 1 + 1 by omega, List.drop_succ_cons, List.drop_succ_cons]
  exact tm_two l i t (by simpa using h)
theorem tmC_dats : ∀ l : List Tm, dats (tmC l) = true
 | [] => rfl
 | t :: l => by rw [tmC_cons]; simp [dats, LV.dat, tmC_dats l]
theorem nthL_at {l : List LV} {i : Nat} {v : LV} {K : LV → Prop} (h : l[i]? = some v) : nthL l i K = K v := by simp [nthL, h]
theorem map_at {α : Type} {f : α → LV} {l : List α} {i : Nat} {a : α} (h : l[i]? = some a) : (l.map f)[i]? = some (f a) := by simp [h]
mutual
theorem bor_self {G : LHeap} (v : LV) (h : v.dat = true) : bor G v v := by
 cases v with
 | agg l => simp only [LV.dat] at h; exact ⟨l, rfl, bors_self l h⟩
 | nilSl => exact .inl rfl
 | dy p k => simp [LV.dat] at h
 | vw p k lo len => simp [LV.dat] at h
 | _ => exact ⟨rfl, h⟩
termination_by SizeOf.sizeOf v
theorem bors_self {G : LHeap} (l : List LV) (h : dats l = true) : bors G l l := by
 cases l with
 | nil => rfl
 | cons v l =>
  simp only [dats, Bool.and_eq_true] at h
  exact ⟨v, l, rfl, bor_self v h.1, bors_self l h.2⟩
termination_by SizeOf.sizeOf l
end
def ixZ {α : Type} (p : α → Bool) (l : List α) : Int := if l.findIdx p < l.length then (l.findIdx p : Int) else -1
theorem ixZ_at {α : Type} {p : α → Bool} {l : List α} {i : Nat} {a : α} (h : l[i]? = some a) (hp : p a = true) (hn : ∀ j b, j < i → l[j]? = some b → p b = false) : ixZ p l = i := by
 obtain ⟨hi, rfl⟩ := List.getElem?_eq_some_iff.1 h
 have : l.findIdx p = i := (List.findIdx_eq hi).2 ⟨hp, fun j hj => hn j _ hj (List.getElem?_eq_getElem _)⟩
 rw [ixZ, this, if_pos hi]
theorem ixZ_none {α : Type} {p : α → Bool} {l : List α} {i : Nat} (hi : l.length ≤ i) (hn : ∀ j b, j < i → l[j]? = some b → p b = false) : ixZ p l = -1 := by
 have : l.findIdx p = l.length := List.findIdx_eq_length.2 fun a ha => by
  obtain ⟨j, hj, rfl⟩ := List.mem_iff_getElem.1 ha
  exact hn j _ (by omega) (List.getElem?_eq_getElem _)
 rw [ixZ, this, if_neg (by omega)]
theorem ixZ_any {α : Type} (p : α → Bool) (l : List α) : decide (0 ≤ ixZ p l) = l.any p := by
 unfold ixZ
 by_cases h : l.findIdx p < l.length
 ·rw [if_pos h, decide_eq_true (by omega)]
  exact (List.any_eq_true.2 ⟨_, List.getElem_mem h, List.findIdx_getElem⟩).symm
 ·rw [if_neg h, decide_eq_false (by omega)]
  have h2 := List.findIdx_eq_length.1 (show l.findIdx p = l.length by have := List.findIdx_le_length (p := p) (xs := l); omega)
  exact (List.any_eq_false.2 fun x hx => by simp [h2 x hx]).symm
def tmOk (t : Tm) : Bool := decide (t.1.length ≤ 20) && decide (t.2 ≤ 1048576) && decide (-1048576 ≤ t.2)
def lightL (c : Int) (l : List Tm) : Bool := l.all tmOk && (decide (l.length ≤ 6) && decide (c ≤ 1048576) && decide (-1048576 ≤ c))
end Go.Sv
namespace Go.Sv
def gd (l : List Int) (u : Nat) : Int := l.getD u 0
def strict (l : List Int) (m : Nat) : Prop := ∀ u v, u < v → v < m → gd l u < gd l v
structure Cmp (l0 l : List Int) (m d : Nat) : Prop where
 len : l.length = l0.length
 m1 : 1 ≤ m
 md : m ≤ d
 st : strict l m
 mem : ∀ x, (∃ u, u < m ∧ gd l u = x) ↔ ∃ u, u < d ∧ gd l0 u = x
 last : gd l (m - 1) = gd l0 (d - 1)
 rest : ∀ u, d - 1 ≤ u → gd l u = gd l0 u ∨ u < m
end Go.Sv
namespace Go.Sv
theorem fm_len {α : Type} {f : α → List LV} {k : Nat} (hf : ∀ a, (f a).length = k) : ∀ l : List α, (l.flatMap f).length = l.length * k
 | [] => by simp
 | a :: l => by rw [List.flatMap_cons, List.length_append, fm_len hf l, hf, List.length_cons, Nat.add_mul]; omega
theorem fm_drop {α : Type} {f : α → List LV} {k : Nat} (hf : ∀ a, (f a).length = k) : ∀ (l : List α) (i : Nat), (l.flatMap f).drop (i * k) = (l.drop i).flatMap f
 | _, 0 => by simp
 | [], i + 1 => by simp
 | a :: l, i + 1 => by
  rw [List.flatMap_cons, List.drop_append, hf, show (i + 1) * k - k = i * k by rw [Nat.add_mul]; omega, fm_drop hf l i]
  rw [List.drop_of_length_le (by rw [hf, Nat.add_mul]; omega)]; rfl
theorem fm_take {α : Type} {f : α → List LV} {k : Nat} (hf : ∀ a, (f a).length = k) {l : List α} {i : Nat} {a : α} (h : l[i]? = some a) : ((l.flatMap f).drop (i * k)).take k = f a := by
 rw [fm_drop hf]
 obtain ⟨hi, rfl⟩ := List.getElem?_eq_some_iff.1 h
 rw [List.drop_eq_getElem_cons hi, List.flatMap_cons, List.take_append_of_le_length (by rw [hf]; exact Nat.le_refl _), List.take_of_length_le (by rw [hf]; exact Nat.le_refl _)]
theorem fm_at {α : Type} {f : α → List LV} {k : Nat} (hf : ∀ a, (f a).length = k) {l : List α} {i : Nat} {a : α} (h : l[i]? = some a) {j : Nat} (hj : j < k) : (l.flatMap f)[i * k + j]? = (f a)[j]? := by
 rw [← List.getElem?_drop, ← fm_take hf h, List.getElem?_take_of_lt hj]
theorem fm_dats {α : Type} {f : α → List LV} (hf : ∀ a, dats (f a) = true) : ∀ l : List α, dats (l.flatMap f) = true
 | [] => rfl
 | a :: l => by rw [List.flatMap_cons]; exact dats_app (hf a) (fm_dats hf l)
theorem fm_lt {α : Type} {f : α → List LV} {k : Nat} (hf : ∀ a, (f a).length = k) {l : List α} {i : Nat} (h : i < l.length) : i * k + k ≤ (l.flatMap f).length := by
 rw [fm_len hf, ← Nat.succ_mul]; exact Nat.mul_le_mul_right _ h
structure Vr where
 limbs : Int
 sec : Bool
 mode : Int
structure Ko where
 kind : Int
 d : Int
 e : Int
 a : Int
 b : Int
 c : Int
 imm : UInt64
def Vr.f (v : Vr) : List LV := [.i v.limbs, .bool v.sec, .i v.mode]
def Ko.f (o : Ko) : List LV := [.i o.kind, .i o.d, .i o.e, .i o.a, .i o.b, .i o.c, .u o.imm]
def gv (l : List Vr) (n : Nat) : Vr := l.getD n ⟨0, false, 0⟩
def go (l : List Ko) (n : Nat) : Ko := l.getD n ⟨0, 0, 0, 0, 0, 0, 0⟩
def gb (l : List Bool) (n : Nat) : Bool := l.getD n false
def givenB (v : Vr) : Bool := decide (v.mode = 1) || decide (v.mode = 2)
def vrBad (v : Vr) : Bool := decide (v.limbs < 1) || (decide (512 < v.limbs) || (decide (v.mode < 0) || decide (3 < v.mode)))
def vgo : Nat → Nat → List Vr → Option Nat
 | _, p, [] => some p
 | i, p, v :: l => if vrBad v = true then none else if v.mode = 0 then vgo (i + 1) p l else if p < i ∨ v.sec = decide (v.mode = 1) then none else vgo (i + 1) (p + 1) l
def varsB (l : List Vr) : Bool := match vgo 0 0 l with
 | none => false
 | some p => decide (1 ≤ l.length) && (decide (l.length ≤ 256) && decide (p ≤ 12))
def thereB (n : Nat) (v : Int) : Bool := decide (0 ≤ v) && decide (v < n)
def needB (n : Nat) (o : Ko) : Bool :=
 decide (o.d = -1) && (decide (o.e = -1) && (decide (o.c = -1) && (thereB n o.a && (if o.imm = 2 then thereB n o.b else (decide (o.imm = 1) || decide (o.imm = 3)) && decide (o.b = -1)))))
def shapeN (k : Int) : Option Nat :=
 if k = 1 then some 1 else if k = 2 then some 5 else if k = 3 ∨ k = 4 ∨ k = 5 ∨ k = 6 ∨ k = 7 then some 13 else if k = 8 ∨ k = 10 ∨ k = 11 ∨ k = 12 ∨ k = 13 then some 29 else if k = 9 then some 21 else if k = 14 then some 19 else if k = 15 ∨ k = 16 then some 0 else none
def numB (o : Ko) : Bool := if o.kind = 1 then true else if o.kind = 13 then decide (1 ≤ o.imm) && decide (o.imm ≤ 6) else if o.kind = 15 then decide (1 ≤ o.imm) && decide (o.imm ≤ 4096) else decide (o.imm = 0)
def partOk (n s i : Nat) (v : Int) : Bool := if s.testBit i = true then thereB n v else decide (v = -1)
def partsB (n s : Nat) (o : Ko) : Bool := partOk n s 0 o.d && (partOk n s 1 o.e && (partOk n s 2 o.a && (partOk n s 3 o.b && partOk n s 4 o.c)))
def takesL (o : Ko) : List Int := [o.a, o.b, o.c].filter (fun v => !decide (v < 0)) ++ if o.kind = 14 then [o.d, o.e] else []
def secB (vs : List Vr) (o : Ko) : Bool := (takesL o).any fun v => (gv vs v.toNat).sec
def outOk (vs : List Vr) (sec : Bool) (v : Int) : Bool := decide (v < 0) || !(givenB (gv vs v.toNat) || (sec && !(gv vs v.toNat).sec))
def alikeL (o : Ko) : List Int :=
 if o.kind = 6 then [o.a, o.b] else if o.kind = 14 then [o.d, o.e] else if o.kind = 8 then [o.d, o.a, o.b] else if o.kind = 9 then [o.d, o.c] else if o.kind = 10 ∨ o.kind = 11 ∨ o.kind = 12 then [o.d, o.a, o.b, o.c] else if o.kind = 13 then [o.d, o.a, o.c] else []
def limbsAt (vs : List Vr) (v : Int) : Int := (gv vs v.toNat).limbs
def agreeB (vs : List Vr) (o : Ko) : Bool := (alikeL o).all fun v => decide (limbsAt vs v = limbsAt vs ((alikeL o).headD 0))
def oneB (vs : List Vr) (o : Ko) : Bool :=
 if o.kind = 17 then needB vs.length o else match shapeN o.kind with
 | none => false
 | some s => numB o && (partsB vs.length s o && (outOk vs (secB vs o) o.d && (outOk vs (secB vs o) o.e && ((decide (o.e < 0) || !decide (o.d = o.e)) && agreeB vs o))))
def dl (k : Int) : Int := if k = 15 then 1 else if k = 16 then -1 else 0
def stepM (m : List Bool) (o : Ko) : List Bool := if 0 ≤ o.d then m.set o.d.toNat true else m
def takenB (m : List Bool) (o : Ko) : Bool := (takesL o).all fun v => gb m v.toNat
def ogo (vs : List Vr) : List Bool → Int → List Ko → Option (List Bool × Int)
 | m, dp, [] => some (m, dp)
 | m, dp, o :: l => if (oneB vs o && (takenB m o && (decide (0 ≤ dp + dl o.kind) && decide (dp + dl o.kind ≤ 4)))) = true then ogo vs (stepM m o) (dp + dl o.kind) l else none
def outB (vs : List Vr) (v : Int) : Bool := decide (0 ≤ v) && decide ((gv vs v.toNat).mode = 3)
def reqB (vs : List Vr) (o : Ko) : Bool := decide (o.kind = 17) && (needB vs.length o && (!outB vs o.a && !outB vs o.b))
def madeAll (vs : List Vr) (m : List Bool) : Bool := (List.range vs.length).all fun i => !decide ((gv vs i).mode = 3) || gb m i
def startM (vs : List Vr) : List Bool := vs.map givenB
def chkB (vs : List Vr) (os rs : List Ko) : Bool :=
 varsB vs && (decide (os.length ≤ 4096) && (decide (rs.length ≤ 4096) && (rs.all (reqB vs) && (match ogo vs (startM vs) 0 os with
  | none => false
  | some (m, dp) => madeAll vs m && decide (dp = 0)))))
structure PartsIn (n : Nat) (o : Ko) : Prop where
 d : o.d = -1 ∨ (0 ≤ o.d ∧ o.d < n)
 e : o.e = -1 ∨ (0 ≤ o.e ∧ o.e < n)
 takes : ∀ v ∈ takesL o, 0 ≤ v ∧ v < n
 alike : ∀ v ∈ alikeL o, 0 ≤ v ∧ v < n
 swap : o.kind = 14 → o.a = -1 ∧ o.b = -1
end Go.Sv
namespace Go.Sv
inductive Fr (α : Type) where
 | nil
 | op (o : α) (r : Fr α)
 | loop (o : α) (b : Fr α) (e : α) (r : Fr α)
section tree
variable {α : Type}
def Fr.flat : Fr α → List α
 | .nil => []
 | .op o r => o :: r.flat
 | .loop o b e r => o :: (b.flat ++ e :: r.flat)
def Fr.size : Fr α → Nat
 | .nil => 0
 | .op _ r => r.size + 1
 | .loop _ b _ r => b.size + r.size + 2
def Fr.wf (kd : α → Nat) : Fr α → Prop
 | .nil => True
 | .op o r => kd o = 0 ∧ r.wf kd
 | .loop o b e r => kd o = 1 ∧ kd e = 2 ∧ b.wf kd ∧ r.wf kd
def bal (kd : α → Nat) : Nat → List α → Prop
 | d, [] => d = 0
 | d, o :: l => if kd o = 1 then bal kd (d + 1) l else if kd o = 2 then 0 < d ∧ bal kd (d - 1) l else kd o = 0 ∧ bal kd d l
theorem parse {kd : α → Nat} : ∀ (n : Nat) (l : List α) (d : Nat), l.length ≤ n → bal kd d l → ∃ (f : Fr α) (rest : List α), f.wf kd ∧ l = f.flat ++ rest ∧ ((d = 0 ∧ rest = []) ∨ ∃ (e : α) (rest' : List α) (d' : Nat), d = d' + 1 ∧ rest = e :: rest' ∧ kd e = 2 ∧ bal kd d' rest')
 | _, [], d, _, h => ⟨.nil, [], trivial, rfl, .inl ⟨h, rfl⟩⟩
 | n + 1, o :: l, d, hn, h => by
  have hn' : l.length ≤ n := by simpa using hn
  unfold bal at h
  by_cases h1 : kd o = 1
  ·rw [if_pos h1] at h
   obtain ⟨f1, r1, w1, e1, q1⟩ := parse n l (d + 1) hn' h
   rcases q1 with ⟨q, _⟩ | ⟨e, r2, d', hd, rfl, ke, hb⟩
   ·omega
   obtain rfl : d = d' := by omega
   have hl2 : r2.length ≤ n := by rw [e1] at hn'; simp at hn'; omega
   obtain ⟨f2, r3, w2, e2, q2⟩ := parse n r2 d hl2 hb
   refine ⟨.loop o f1 e f2, r3, ⟨h1, ke, w1, w2⟩, by rw [e1, e2]; simp [Fr.flat], q2⟩
  ·rw [if_neg h1] at h
   by_cases h2 : kd o = 2
   ·rw [if_pos h2] at h
    exact ⟨.nil, o :: l, trivial, rfl, .inr ⟨o, l, d - 1, by omega, rfl, h2, h.2⟩⟩
   ·rw [if_neg h2] at h
    obtain ⟨f1, r1, w1, e1, q1⟩ := parse n l d hn' h.2
    exact ⟨.op o f1, r1, ⟨h.1, w1⟩, by rw [e1]; rfl, q1⟩
theorem tree_of {kd : α → Nat} {l : List α} (h : bal kd 0 l) : ∃ f : Fr α, f.wf kd ∧ l = f.flat := by
 obtain ⟨f, r, w, e, q⟩ := parse l.length l 0 (Nat.le_refl _) h
 rcases q with ⟨_, rfl⟩ | ⟨_, _, _, h, _⟩
 ·exact ⟨f, w, by simpa using e⟩
 ·omega
def Fr.ends : Nat → Fr α → List Int
 | _, .nil => []
 | i, .op _ r => -1 :: r.ends (i + 1)
 | i, .loop _ b _ r => ((i + b.size + 1 : Nat) : Int) :: (b.ends (i + 1) ++ (i : Int) :: r.ends (i + b.size + 2))
end tree
def kdK (o : Ko) : Nat := if o.kind = 15 then 1 else if o.kind = 16 then 2 else 0
theorem ogo_bal {vs : List Vr} : ∀ (l : List Ko) (m m' : List Bool) (d : Nat), ogo vs m d l = some (m', 0) → bal kdK d l
 | [], m, m', d, h => by
  unfold ogo at h
  cases h
  unfold bal; rfl
 | o :: l, m, m', d, h => by
  unfold ogo at h
  split at h
  ·rename_i hc
   simp only [Bool.and_eq_true, decide_eq_true_eq] at hc
   obtain ⟨_, _, h0, h4⟩ := hc
   unfold bal
   by_cases k1 : o.kind = 15
   ·rw [if_pos (by simp [kdK, k1])]
    rw [dl, if_pos k1] at h
    exact ogo_bal l _ m' (d + 1) (by simpa using h)
   ·rw [if_neg (by simp [kdK, k1]; split <;> simp)]
    by_cases k2 : o.kind = 16
    ·rw [if_pos (by simp [kdK, k2])]
     rw [dl, if_neg k1, if_pos k2] at h h0
     refine ⟨by omega, ogo_bal (vs := vs) l (stepM m o) m' (d - 1) ?_⟩
     rw [show ((d - 1 : Nat) : Int) = (d : Int) + -1 by omega]; exact h
    ·rw [if_neg (by simp [kdK, k1, k2])]
     rw [dl, if_neg k1, if_neg k2] at h
     exact ⟨by simp [kdK, k1, k2], ogo_bal l _ m' d (by simpa using h)⟩
  ·cases h
end Go.Sv
namespace Go.Sv
abbrev Sp := Int × Int
def Fr.tops {α : Type} : Nat → Fr α → List Sp
 | _, .nil => []
 | i, .op _ r => r.tops (i + 1)
 | i, .loop _ b _ r => ((i : Int), ((i + b.size + 1 : Nat) : Int)) :: r.tops (i + b.size + 2)
def gs (l : List Sp) (n : Nat) : Sp := l.getD n (0, 0)
structure Left (os : List Ko) (es : List Int) (T0 : List Sp) (i : Nat) (r : Fr Ko) (T : List Sp) : Prop where
 os : os.drop i = r.flat
 es : es.drop i = r.ends i
 wf : r.wf kdK
 tops : T0 = T ++ r.tops i
end Go.Sv
namespace Go.Sv
theorem one_parts {vs : List Vr} {o : Ko} {s : Nat} (h : oneB vs o = true) (hs : shapeN o.kind = some s) : partsB vs.length s o = true ∧ numB o = true ∧ agreeB vs o = true := by
 unfold oneB at h
 split at h
 ·rename_i hk
  rw [hk] at hs; simp [shapeN] at hs
 ·rw [hs] at h
  simp only [Bool.and_eq_true] at h
  exact ⟨h.2.1, h.1, h.2.2.2.2.2⟩
end Go.Sv
namespace Go.Sv
end Go.Sv
namespace Go.Sv
abbrev Fc := Int × Int × Int
def needsL (o : Ko) : List Fc :=
 if o.kind = 9 then [(3, o.c, -1)] else if o.kind = 10 ∨ o.kind = 11 then [(2, o.a, o.c), (2, o.b, o.c)] else if o.kind = 12 then [(1, o.c, -1), (2, o.a, o.c), (2, o.b, o.c)] else if o.kind = 13 then [(1, o.c, -1), (2, o.a, o.c)]
 else if o.kind = 17 then (if o.imm = 2 then [(2, o.a, o.b)] else if o.imm = 1 then [(1, o.a, -1)] else if o.imm = 3 then [(3, o.a, -1)] else []) else []
def gN (v : List Nat) (i : Int) : Nat := if i < 0 then 0 else v.getD i.toNat 0
def holdsB (f : Fc) (v : List Nat) : Bool :=
 thereB v.length f.2.1 && (if f.1 = 1 then decide (gN v f.2.1 % 2 = 1) else if f.1 = 3 then decide (0 < gN v f.2.1) else if f.1 = 2 then thereB v.length f.2.2 && decide (gN v f.2.1 < gN v f.2.2) else false)
def metB (o : Ko) (v : List Nat) : Bool := (needsL o).all fun f => holdsB f v
def two64 (n : Int) : Nat := 2 ^ (64 * n.toNat)
noncomputable def rawV (vs : List Vr) (o : Ko) (v : List Nat) : Nat :=
 let a := gN v o.a
 let b := gN v o.b
 let c := gN v o.c
 let w := two64 (limbsAt vs o.d)
 if o.kind = 1 then o.imm.toNat else if o.kind = 2 then a else if o.kind = 3 then a + b else if o.kind = 4 then a % w + w - b % w else if o.kind = 5 ∨ o.kind = 6 then a * b
 else if o.kind = 7 then (if a < b then 1 else 0) else if o.kind = 8 then (if c % 2 = 1 then a else b) else if o.kind = 9 then a % c else if o.kind = 10 then (a + b) % c else if o.kind = 11 then subM a b c
 else if o.kind = 12 then val (reR (toL (a * b)) (toL c) (limbsAt vs o.c)) else if o.kind = 13 then a ^ b % c else 0
noncomputable def opV (vs : List Vr) (o : Ko) (v : List Nat) : Nat := rawV vs o v % two64 (limbsAt vs o.d)
noncomputable def stepV (vs : List Vr) (o : Ko) (v : List Nat) : List Nat :=
 if o.kind = 14 then (if gN v o.c % 2 = 1 then (v.set o.d.toNat (gN v o.e)).set o.e.toNat (gN v o.d) else v) else if o.kind = 17 then v else v.set o.d.toNat (opV vs o v)
def iterO {α : Type} (f : α → Option α) : Nat → α → Option α
 | 0, v => some v
 | n + 1, v => match f v with
  | none => none
  | some w => iterO f n w
noncomputable def Fr.exec (vs : List Vr) : Fr Ko → List Nat → Option (List Nat)
 | .nil, v => some v
 | .op o r, v => if metB o v = true then r.exec vs (stepV vs o v) else none
 | .loop o b _ r, v => match iterO (fun w => b.exec vs w) o.imm.toNat v with
  | none => none
  | some w => r.exec vs w
def Fr.once : Fr Ko → Prop
 | .nil => True
 | .op _ r => r.once
 | .loop o b _ r => 1 ≤ o.imm.toNat ∧ b.once ∧ r.once
theorem kd_1 {o : Ko} : kdK o = 1 ↔ o.kind = 15 := by unfold kdK; split <;> (try split) <;> simp_all
theorem kd_2 {o : Ko} : kdK o = 2 ↔ o.kind = 16 := by
 unfold kdK
 by_cases h : o.kind = 15
 ·simp [h]
 ·by_cases h2 : o.kind = 16 <;> simp [h, h2]
end Go.Sv
namespace Go.Sv
def cap40 : Nat := 1099511627776
def Fr.stepsT : Fr Ko → Nat
 | .nil => 0
 | .op _ r => r.stepsT + 1
 | .loop o b _ r => o.imm.toNat * (1 + b.stepsT) + r.stepsT
theorem ogo_all {vs : List Vr} : ∀ (l : List Ko) (m : List Bool) (d : Int) (r : List Bool × Int), ogo vs m d l = some r → ∀ o ∈ l, oneB vs o = true
 | [], _, _, _, _, o, ho => by cases ho
 | x :: l, m, d, r, h, o, ho => by
  unfold ogo at h
  split at h
  ·rename_i hc
   simp only [Bool.and_eq_true] at hc
   rcases List.mem_cons.1 ho with rfl | ho
   ·exact hc.1
   ·exact ogo_all l _ _ r h o ho
  ·cases h
theorem once_of {vs : List Vr} : ∀ (f : Fr Ko), f.wf kdK → (∀ o ∈ f.flat, oneB vs o = true) → f.once
 | .nil, _, _ => trivial
 | .op _ r, w, h => once_of r w.2 fun o ho => h o (List.mem_cons_of_mem _ ho)
 | .loop o b e r, w, h => by
  obtain ⟨w1, w2, w3, w4⟩ := w
  refine ⟨?_, once_of b w3 fun x hx => h x (by simp [Fr.flat, hx]), once_of r w4 fun x hx => h x (by simp [Fr.flat, hx])⟩
  have k15 := kd_1.1 w1
  have h1 := h o (by simp [Fr.flat])
  obtain ⟨_, hn, _⟩ := one_parts (s := 0) h1 (by simp [shapeN, k15])
  simp [numB, k15] at hn
  have := hn.1
  rw [UInt64.le_iff_toNat_le] at this
  exact this
end Go.Sv
namespace Go.Sv
def Fr.app {α : Type} : Fr α → Fr α → Fr α
 | .nil, g => g
 | .op o r, g => .op o (r.app g)
 | .loop o b e r, g => .loop o b e (r.app g)
end Go.Sv
namespace Go.Sv
end Go.Sv
namespace Go.Sv
def mkO : List Bool → List Ko → Option (List Bool)
 | m, [] => some m
 | m, o :: l => if takenB m o = true then mkO (stepM m o) l else none
def Fr.deep : Fr Ko → Nat
 | .nil => 0
 | .op _ r => r.deep
 | .loop _ b _ r => max (1 + b.deep) r.deep
theorem mkO_app : ∀ (a b : List Ko) (m : List Bool), mkO m (a ++ b) = match mkO m a with
  | none => none
  | some m1 => mkO m1 b
 | [], _, _ => rfl
 | o :: a, b, m => by
  simp only [List.cons_append, mkO]
  split
  ·exact mkO_app a b _
  ·rfl
theorem ogo_deep {vs : List Vr} : ∀ (f : Fr Ko) (m : List Bool) (d : Int) (rest : List Ko) (r : List Bool × Int), f.wf kdK → 0 ≤ d → d ≤ 4 → ogo vs m d (f.flat ++ rest) = some r → d + f.deep ≤ 4 ∧ ∃ m', mkO m f.flat = some m' ∧ ogo vs m' d rest = some r
 | .nil, m, d, rest, r, _, _, h4, h => ⟨by simp [Fr.deep]; omega, m, rfl, h⟩
 | .op o f, m, d, rest, r, w, h0, h4, h => by
  have k1 : o.kind ≠ 15 := fun h => by have := w.1; simp [kdK, h] at this
  have k2 : o.kind ≠ 16 := fun h => by have := w.1; simp [kdK, h] at this
  simp only [Fr.flat, List.cons_append] at h
  unfold ogo at h
  split at h
  ·rename_i hc
   simp only [Bool.and_eq_true] at hc
   rw [dl, if_neg k1, if_neg k2, Int.add_zero] at h
   obtain ⟨q1, m', q2, q3⟩ := ogo_deep f _ d rest r w.2 h0 h4 h
   exact ⟨q1, m', by simp only [Fr.flat, mkO, hc.2.1, if_true]; exact q2, q3⟩
  ·cases h
 | .loop o b e f, m, d, rest, r, w, h0, h4, h => by
  obtain ⟨w1, w2, w3, w4⟩ := w
  have k15 := kd_1.1 w1
  have k16 := kd_2.1 w2
  simp only [Fr.flat, List.cons_append, List.append_assoc] at h
  unfold ogo at h
  split at h
  ·rename_i hc
   simp only [Bool.and_eq_true, decide_eq_true_eq] at hc
   rw [dl, if_pos k15] at h
   have hd := hc.2.2.2
   rw [dl, if_pos k15] at hd
   obtain ⟨q1, m1, q2, q3⟩ := ogo_deep b _ (d + 1) _ r w3 (by omega) hd h
   unfold ogo at q3
   split at q3
   ·rename_i hc2
    simp only [Bool.and_eq_true, decide_eq_true_eq] at hc2
    rw [dl, if_neg (by omega), if_pos k16, show d + 1 + -1 = d by omega] at q3
    obtain ⟨p1, m2, p2, p3⟩ := ogo_deep f _ d rest r w4 h0 h4 q3
    refine ⟨by simp only [Fr.deep]; omega, m2, ?_, p3⟩
    simp only [Fr.flat, mkO, hc.2.1, if_true]
    rw [mkO_app, q2]
    simp only [mkO, hc2.2.1, if_true]
    exact p2
   ·cases q3
  ·cases h
end Go.Sv
namespace Go.Sv
theorem chk_tree {vs : List Vr} {os rs : List Ko} (h : chkB vs os rs = true) : ∃ f : Fr Ko, f.wf kdK ∧ os = f.flat ∧ f.once ∧ (∀ o ∈ f.flat, oneB vs o = true) ∧ f.deep ≤ 4 ∧ ∃ m', mkO (startM vs) f.flat = some m' ∧ madeAll vs m' = true := by
 unfold chkB at h
 simp only [Bool.and_eq_true, decide_eq_true_eq] at h
 obtain ⟨h1, h2, h3, h4, h5⟩ := h
 split at h5
 ·cases h5
 ·rename_i m dp hg
  simp only [Bool.and_eq_true, decide_eq_true_eq] at h5
  obtain ⟨h5, rfl⟩ := h5
  obtain ⟨f, w, hf⟩ := tree_of (ogo_bal os _ m 0 (by simpa using hg))
  subst hf
  have ha := ogo_all _ _ _ _ hg
  obtain ⟨q1, m', q2, q3⟩ := ogo_deep f (startM vs) 0 [] (m, 0) w (by omega) (by omega) (by simpa using hg)
  have hm : m' = m := by
   unfold ogo at q3
   simpa using q3
  subst hm
  exact ⟨f, w, rfl, once_of f w ha, ha, by omega, m', q2, h5⟩
end Go.Sv
namespace Go.Sv
def unK (o : Ko) : Ko := if o.kind = 6 then { o with kind := 5 } else o
def Fr.map {α : Type} (g : α → α) : Fr α → Fr α
 | .nil => .nil
 | .op o r => .op (g o) (r.map g)
 | .loop o b e r => .loop (g o) (b.map g) (g e) (r.map g)
theorem flat_map {α : Type} (g : α → α) : ∀ f : Fr α, (f.map g).flat = f.flat.map g
 | .nil => rfl
 | .op _ r => by simp [Fr.map, Fr.flat, flat_map g r]
 | .loop _ b _ r => by simp [Fr.map, Fr.flat, flat_map g r, flat_map g b]
theorem unK_kd (o : Ko) : kdK (unK o) = kdK o := by
 unfold unK
 split
 ·rename_i h; simp [kdK, h]
 ·rfl
theorem wf_map : ∀ f : Fr Ko, f.wf kdK → (f.map unK).wf kdK
 | .nil, _ => trivial
 | .op _ r, w => ⟨by rw [unK_kd]; exact w.1, wf_map r w.2⟩
 | .loop _ b _ r, w => ⟨by rw [unK_kd]; exact w.1, by rw [unK_kd]; exact w.2.1, wf_map b w.2.2.1, wf_map r w.2.2.2⟩
theorem unK_imm (o : Ko) : (unK o).imm = o.imm := by unfold unK; split <;> rfl
theorem unK_step (vs : List Vr) (o : Ko) (v : List Nat) : stepV vs (unK o) v = stepV vs o v := by
 unfold unK
 split
 ·rename_i h; simp [stepV, opV, rawV, h]
 ·rfl
theorem unK_met (o : Ko) (v : List Nat) : metB (unK o) v = metB o v := by
 unfold unK
 split
 ·rename_i h; simp [metB, needsL, h]
 ·rfl
theorem exec_map {vs : List Vr} : ∀ (f : Fr Ko) (v : List Nat), (f.map unK).exec vs v = f.exec vs v
 | .nil, _ => rfl
 | .op o r, v => by
  simp only [Fr.map, Fr.exec, unK_met, unK_step]
  split
  ·exact exec_map r _
  ·rfl
 | .loop o b e r, v => by
  have hb : (fun w => (b.map unK).exec vs w) = fun w => b.exec vs w := funext fun w => exec_map b w
  simp only [Fr.map, Fr.exec, unK_imm, hb]
  cases iterO (fun w => b.exec vs w) o.imm.toNat v with
  | none => rfl
  | some w => exact exec_map r w
theorem stepsT_map : ∀ f : Fr Ko, (f.map unK).stepsT = f.stepsT
 | .nil => rfl
 | .op _ r => by simp [Fr.map, Fr.stepsT, stepsT_map r]
 | .loop _ b _ r => by simp [Fr.map, Fr.stepsT, stepsT_map r, stepsT_map b, unK_imm]
theorem unK_takes (o : Ko) : takesL (unK o) = takesL o := by
 unfold unK
 split
 ·rename_i h; simp [takesL, h]
 ·rfl
theorem unK_one {vs : List Vr} {o : Ko} (h : oneB vs o = true) : oneB vs (unK o) = true := by
 unfold unK
 split
 ·rename_i k
  simp only [oneB, k, shapeN, partsB, numB, secB, takesL, agreeB, alikeL] at h ⊢
  simp only [show (6 : Int) ≠ 17 by decide, show (5 : Int) ≠ 17 by decide, if_false] at h ⊢
  simp at h ⊢
  simp_all
 ·exact h
theorem ogo_map {vs : List Vr} : ∀ (l : List Ko) (m : List Bool) (d : Int) (r : List Bool × Int), ogo vs m d l = some r → ogo vs m d (l.map unK) = some r
 | [], _, _, _, h => h
 | o :: l, m, d, r, h => by
  simp only [List.map_cons]
  have e1 : takenB m (unK o) = takenB m o := by simp [takenB, unK_takes]
  have e2 : dl (unK o).kind = dl o.kind := by
   unfold unK
   split
   ·rename_i k; simp [dl, k]
   ·rfl
  have e3 : stepM m (unK o) = stepM m o := by
   unfold unK
   split <;> rfl
  unfold ogo at h ⊢
  split at h
  ·rename_i hc
   simp only [Bool.and_eq_true] at hc
   rw [e1, e2, e3, if_pos (by simp only [Bool.and_eq_true]; exact ⟨unK_one hc.1, hc.2⟩)]
   exact ogo_map l _ _ r h
  ·cases h
theorem chk_map {vs : List Vr} {os rs : List Ko} (h : chkB vs os rs = true) : chkB vs (os.map unK) rs = true := by
 unfold chkB at h ⊢
 simp only [Bool.and_eq_true, decide_eq_true_eq] at h ⊢
 obtain ⟨h1, h2, h3, h4, h5⟩ := h
 refine ⟨h1, by simpa using h2, h3, h4, ?_⟩
 split at h5
 ·cases h5
 ·rename_i m dp hg
  rw [ogo_map _ _ _ _ hg]
  simpa using h5
end Go.Sv
namespace Go.Sv
theorem flat_inj {α : Type} {kd : α → Nat} : ∀ (f g : Fr α) (r1 r2 : List α), f.wf kd → g.wf kd → (∀ x t, r1 = x :: t → kd x = 2) → (∀ x t, r2 = x :: t → kd x = 2) → f.flat ++ r1 = g.flat ++ r2 → f = g ∧ r1 = r2
 | .nil, .nil, r1, r2, _, _, _, _, h => ⟨rfl, h⟩
 | .nil, .op o g, r1, r2, _, w, h1, _, h => by
  have := h1 o _ (by simpa [Fr.flat] using h)
  have := w.1; omega
 | .nil, .loop o b e g, r1, r2, _, w, h1, _, h => by
  have := h1 o _ (by simpa [Fr.flat] using h)
  have := w.1; omega
 | .op o f, .nil, r1, r2, w, _, _, h2, h => by
  have := h2 o _ (by simpa [Fr.flat] using h.symm)
  have := w.1; omega
 | .loop o b e f, .nil, r1, r2, w, _, _, h2, h => by
  have := h2 o _ (by simpa [Fr.flat] using h.symm)
  have := w.1; omega
 | .op o f, .op o' g, r1, r2, w, w', h1, h2, h => by
  simp only [Fr.flat, List.cons_append, List.cons.injEq] at h
  obtain ⟨rfl, h⟩ := h
  obtain ⟨rfl, rfl⟩ := flat_inj f g r1 r2 w.2 w'.2 h1 h2 h
  exact ⟨rfl, rfl⟩
 | .op o f, .loop o' b e g, r1, r2, w, w', _, _, h => by
  simp only [Fr.flat, List.cons_append, List.cons.injEq] at h
  have a1 := w.1
  have a2 := w'.1
  rw [h.1] at a1; omega
 | .loop o b e f, .op o' g, r1, r2, w, w', _, _, h => by
  simp only [Fr.flat, List.cons_append, List.cons.injEq] at h
  have a1 := w.1
  have a2 := w'.1
  rw [h.1] at a1; omega
 | .loop o b e f, .loop o' b' e' g, r1, r2, w, w', h1, h2, h => by
  simp only [Fr.flat, List.cons_append, List.cons.injEq, List.append_assoc] at h
  obtain ⟨rfl, h⟩ := h
  obtain ⟨rfl, h5⟩ := flat_inj b b' _ _ w.2.2.1 w'.2.2.1 (fun x t q => by injection q with q _; exact q ▸ w.2.1) (fun x t q => by injection q with q _; exact q ▸ w'.2.1) h
  injection h5 with h3 h4
  subst h3
  obtain ⟨rfl, rfl⟩ := flat_inj f g r1 r2 w.2.2.2 w'.2.2.2 h1 h2 h4
  exact ⟨rfl, rfl⟩
open Classical in
noncomputable def frOf (os : List Ko) : Fr Ko := if h : ∃ f : Fr Ko, f.wf kdK ∧ os = f.flat then h.choose else .nil
theorem frOf_flat {f : Fr Ko} (w : f.wf kdK) : frOf f.flat = f := by
 have h : ∃ g : Fr Ko, g.wf kdK ∧ f.flat = g.flat := ⟨f, w, rfl⟩
 unfold frOf
 rw [dif_pos h]
 have hs := h.choose_spec
 exact (flat_inj _ f [] [] hs.1 w (by simp) (by simp) (by simpa using hs.2.symm)).1
def inV (vs : List Vr) : List Nat := (List.range vs.length).filter fun i => givenB (gv vs i)
def outV (vs : List Vr) : List Nat := (List.range vs.length).filter fun i => decide ((gv vs i).mode = 3)
def fitsD (vs : List Vr) (ns : List Nat) : Bool := ((inV vs).zip ns).all fun p => decide (p.2 < two64 (gv vs p.1).limbs)
def fitD (vs : List Vr) (os rs : List Ko) (ns : List Nat) : Int := if chkB vs os rs = true then (if (inV vs).length = ns.length then (if fitsD vs ns = true then 0 else 3) else 2) else 2
def startW (vs : List Vr) (ns : List Nat) : List Nat := ((inV vs).zip ns).foldl (fun v p => v.set p.1 p.2) (List.replicate vs.length 0)
def metD (vs : List Vr) (os rs : List Ko) (ns : List Nat) : Bool := decide (fitD vs os rs ns = 0) && rs.all fun o => metB o (startW vs ns)
noncomputable def stepsN20 (vs : List Vr) (os rs : List Ko) : Nat := if chkB vs os rs = true then min cap40 (frOf os).stepsT else 0
noncomputable def runD (vs : List Vr) (os rs : List Ko) (ns : List Nat) : List (List UInt64) × Int :=
 if fitD vs os rs ns = 0 then (if metD vs os rs ns = true then (if stepsN20 vs os rs ≤ 16384 then (match (frOf os).exec vs (startW vs ns) with
  | none => ([], 9)
  | some w => ((outV vs).map fun i => toL (w.getD i 0), 0)) else ([], 10)) else ([], 9)) else ([], fitD vs os rs ns)
theorem run_map {vs : List Vr} {os rs : List Ko} {ns : List Nat} (hc : chkB vs os rs = true) : runD vs (os.map unK) rs ns = runD vs os rs ns := by
 obtain ⟨f, w, rfl, u, ha, hd, m', hm, hma⟩ := chk_tree hc
 have hc2 := chk_map hc
 have e0 : frOf (f.flat.map unK) = f.map unK := by rw [← flat_map, frOf_flat (wf_map f w)]
 have e1 : fitD vs (f.flat.map unK) rs ns = fitD vs f.flat rs ns := by simp [fitD, hc, hc2]
 have e2 : metD vs (f.flat.map unK) rs ns = metD vs f.flat rs ns := by simp [metD, e1]
 have e3 : stepsN20 vs (f.flat.map unK) rs = stepsN20 vs f.flat rs := by simp [stepsN20, hc, hc2, e0, frOf_flat w, stepsT_map]
 unfold runD
 rw [e1, e2, e3, e0, frOf_flat w, exec_map]
end Go.Sv
namespace Go.Sv
end Go.Sv
namespace Go.Sv
end Go.Sv
namespace Go.Sv
end Go.Sv
namespace Go.Sv
end Go.Sv
namespace Go.Sv
theorem fm_takeN {α : Type} {f : α → List LV} {k : Nat} (hf : ∀ a, (f a).length = k) : ∀ (l : List α) (i : Nat), (l.flatMap f).take (i * k) = (l.take i).flatMap f
 | [], i => by simp
 | a :: l, 0 => by simp
 | a :: l, i + 1 => by
  rw [List.flatMap_cons, List.take_succ_cons, List.flatMap_cons, Nat.add_mul, Nat.one_mul, List.take_append, List.take_of_length_le (by rw [hf]; omega), hf, Nat.add_sub_cancel, fm_takeN hf l i]
end Go.Sv
namespace Go.Sv
abbrev Hl := Int × Int
def apartH (x y : Hl) : Prop := x.2 ≤ y.1 ∨ y.2 ≤ x.1
def Ap (size : Int) (l : List Hl) : Prop := l.Pairwise apartH ∧ ∀ h ∈ l, 0 ≤ h.1 ∧ h.1 < h.2 ∧ h.2 ≤ size
end Go.Sv
namespace Go.Sv
structure St where
 holes : List Hl
 size : Int
def ivs (iv : Nat → Hl) (sec : Nat → Bool) (s : Bool) (busy : List Nat) : List Hl := (busy.filter fun v => sec v == s).map iv
def BusyOk (wk : Bool → Int) (iv : Nat → Hl) (sec : Nat → Bool) (busy : List Nat) (ps : Bool → St) : Prop :=
 ∀ s, 0 ≤ (ps s).size ∧ Ap (ps s).size ((0, wk s) :: (ivs iv sec s busy ++ (ps s).holes))
structure Plan0 (wk : Bool → Int) (a b lim : Nat → Int) (sec : Nat → Bool) (done busy : List Nat) (iv : Nat → Hl) (ps : Bool → St) (cur : Int) : Prop where
 ok : BusyOk wk iv sec busy ps
 wide : ∀ v ∈ done, (iv v).2 = (iv v).1 + lim v
 nd : busy.Nodup
 sub : ∀ v ∈ busy, v ∈ done
 over : ∀ v ∈ done, v ∉ busy → b v < cur
 pairs : ∀ v ∈ done, ∀ w ∈ done, v ≠ w → sec v = sec w → apartH (iv v) (iv w) ∨ b v < a w ∨ b w < a v
 inn : ∀ v ∈ done, 0 ≤ (iv v).1 ∧ (iv v).2 ≤ (ps (sec v)).size ∧ apartH (0, wk (sec v)) (iv v)
 sz : (ps false).size + (ps true).size ≤ wk false + wk true + (done.map lim).sum
end Go.Sv
namespace Go.Sv
structure Bf where
 size : Int
 kind : Int
 sec : Bool
structure Lo where
 kind : Int
 d : Int
 e : Int
 a : Int
 b : Int
 c : Int
 buf : Int
 imm : UInt64
 deriving DecidableEq
def Bf.f (v : Bf) : List LV := [.i v.size, .i v.kind, .bool v.sec]
def Lo.f (o : Lo) : List LV := [.i o.kind, .i o.d, .i o.e, .i o.a, .i o.b, .i o.c, .i o.buf, .u o.imm]
structure Ms where
 i : Nat
 first : Bool
 r : List UInt64
 bufs : List (List UInt64)
 l : List (Int × Int)
def atR (r : List UInt64) (x : Int) : UInt64 := if x < 0 then 0 else r.getD x.toNat 0
end Go.Sv
namespace Go.Sv
structure Fs where
 r : Nat → UInt64
 m : Nat → Nat → UInt64
def Fs.put (s : Fs) (d : Nat) (v : UInt64) : Fs := ⟨fun x => if x = d then v else s.r x, s.m⟩
structure Rep (nb : Nat) (sz : Nat → Nat) (s : Ms) (t : Fs) : Prop where
 rl : s.r.length = 64
 r : ∀ x, x < 64 → s.r.getD x 0 = t.r x
 bl : s.bufs.length = nb
 len : ∀ b, b < nb → (s.bufs.getD b []).length = sz b
 m : ∀ b n, b < nb → n < sz b → (s.bufs.getD b []).getD n 0 = t.m b n
section rep
variable {nb : Nat} {sz : Nat → Nat} {s : Ms} {t : Fs}
end rep
theorem ofNat_lt {j : Nat} : (UInt64.ofNat j + 1 : UInt64) = UInt64.ofNat (j + 1) := by
 apply UInt64.toNat.inj
 simp
end Go.Sv
namespace Go.Sv
def Fr.stp : Fr Lo → Nat
 | .nil => 0
 | .op _ r => 1 + r.stp
 | .loop o b _ r => o.imm.toNat * (1 + b.stp) + r.stp
end Go.Sv
namespace Go.Sv
structure SameLen (s s' : Ms) : Prop where
 r : s'.r.length = s.r.length
 b : s'.bufs.map List.length = s.bufs.map List.length
 i : s'.i = s.i + 1
 l : s'.l.length = s.l.length + 1
 f : s'.first = s.first
end Go.Sv
namespace Go.Sv
structure Pc where
 buf : Int
 at_ : Int
 size : Int
def Pc.f (p : Pc) : List LV := [.i p.buf, .i p.at_, .i p.size]
end Go.Sv
namespace Go.Sv
section made
variable {wk : Bool → Int} {a b lim : Nat → Int} {sec : Nat → Bool} {done busy : List Nat} {iv : Nat → Hl} {ps : Bool → St} {cur base : Int} {n : Nat}
end made
end Go.Sv
namespace Go.Sv
def Srt {α : Type} (k : α → Int) (l : List α) : Prop := l.Pairwise fun x y => k x ≤ k y
section sym
variable {α : Type} {k : α → Int}
theorem Srt.last {l : List α} (h : Srt k l) {u z : α} (hu : u ∈ l) (hz : l.getLast? = some z) : k u ≤ k z := by
 obtain ⟨ys, rfl⟩ := List.getLast?_eq_some_iff.1 hz
 have := List.pairwise_append.1 h
 rcases List.mem_append.1 hu with q | q
 ·exact this.2.2 u q z (by simp)
 ·rw [List.mem_singleton.1 q]; exact Int.le_refl _
theorem Srt.head {l : List α} (h : Srt k l) {u z : α} (hu : u ∈ l) (hz : l.head? = some z) : k z ≤ k u := by
 obtain ⟨ys, rfl⟩ := List.head?_eq_some_iff.1 hz
 have := List.pairwise_cons.1 h
 rcases List.mem_cons.1 hu with q | q
 ·rw [q]; exact Int.le_refl _
 ·exact this.1 u q
theorem last_of {l : List α} {u : α} (h : u ∈ l) : ∃ z, l.getLast? = some z := by
 cases hl : l.getLast? with
 | none => rw [List.getLast?_eq_none_iff] at hl; subst hl; cases h
 | some z => exact ⟨z, rfl⟩
theorem head_of {l : List α} {u : α} (h : u ∈ l) : ∃ z, l.head? = some z := by
 cases l with
 | nil => cases h
 | cons z t => exact ⟨z, rfl⟩
theorem halves {X1 X2 Y1 Y2 : List α} (hX : Srt k (X1 ++ X2)) (hY : Srt k (Y1 ++ Y2)) (h1 : ∀ u w, X1.getLast? = some u → Y2.head? = some w → k u ≤ k w) (h2 : ∀ u w, Y1.getLast? = some u → X2.head? = some w → k u ≤ k w) :
  ∀ u ∈ X1 ++ Y1, ∀ w ∈ X2 ++ Y2, k u ≤ k w := by
 obtain ⟨a1, a2, a3⟩ := List.pairwise_append.1 hX
 obtain ⟨b1, b2, b3⟩ := List.pairwise_append.1 hY
 intro u hu w hw
 rcases List.mem_append.1 hu with hu | hu <;> rcases List.mem_append.1 hw with hw | hw
 ·exact a3 u hu w hw
 ·obtain ⟨z, hz⟩ := last_of hu
  obtain ⟨y, hy⟩ := head_of hw
  exact Int.le_trans (Srt.last a1 hu hz) (Int.le_trans (h1 z y hz hy) (Srt.head b2 hw hy))
 ·obtain ⟨z, hz⟩ := last_of hu
  obtain ⟨y, hy⟩ := head_of hw
  exact Int.le_trans (Srt.last b1 hu hz) (Int.le_trans (h2 z y hz hy) (Srt.head a2 hw hy))
 ·exact b3 u hu w hw
end sym
end Go.Sv
namespace Go.Sv
end Go.Sv
namespace Go.Sv
end Go.Sv
namespace Go.Sv
end Go.Sv
namespace Go.Sv
end Go.Sv
namespace Go.Sv
variable {f : Int → Int}
end Go.Sv
namespace Go.Sv
end Go.Sv
namespace Go.Sv
section pl
variable {wk : Bool → Int} {a b lim : Nat → Int} {sec : Nat → Bool} {done busy : List Nat} {iv : Nat → Hl} {ps : Bool → St} {cur cur' : Int}
end pl
end Go.Sv
namespace Go.Sv
set_option linter.unusedVariables false
abbrev Str := List UInt8
structure LenT where
 c : Int
 ts : List Tm
def LenT.f (l : LenT) : List LV := [.i l.c, .lst (tmC l.ts) l.ts.length 2]
structure ArgT where
 name : Str
 num : UInt64
def ArgT.f (a : ArgT) : List LV := [.str a.name, .u a.num]
structure ParT where
 mode : Int
 name : Str
 len : LenT
def ParT.f (p : ParT) : List LV := [.i p.mode, .str p.name, .i p.len.c, .lst (tmC p.len.ts) p.len.ts.length 2]
structure ClaT where
 kind : Int
 a : Str
 b : Str
def ClaT.f (c : ClaT) : List LV := [.i c.kind, .str c.a, .str c.b]
structure TypT where
 name : Str
 sec : Bool
 mode : Int
def TypT.f (t : TypT) : List LV := [.str t.name, .bool t.sec, .i t.mode]
inductive Stt where
 | mk (kind : Int) (name : Str) (len : LenT) (op : Str) (args : List ArgT) (names : List Str) (lens : List LenT) (body : List Stt)
def strC (l : List Str) : List LV := l.map .str
def argC (l : List ArgT) : List LV := l.flatMap ArgT.f
def lenC (l : List LenT) : List LV := l.flatMap LenT.f
def parC (l : List ParT) : List LV := l.flatMap ParT.f
def claC (l : List ClaT) : List LV := l.flatMap ClaT.f
def typC (l : List TypT) : List LV := l.flatMap TypT.f
mutual
def Stt.f : Stt → List LV
 | .mk k n l op as ns ls b => [.i k, .str n, .i l.c, .lst (tmC l.ts) l.ts.length 2, .str op, .lst (argC as) as.length 2, .lst (strC ns) ns.length 1, .lst (lenC ls) ls.length 2, .lst (stC b) b.length 9]
def stC : List Stt → List LV
 | [] => []
 | s :: l => s.f ++ stC l
end
theorem stC_eq : ∀ l : List Stt, stC l = l.flatMap Stt.f
 | [] => rfl
 | s :: l => by rw [stC, List.flatMap_cons, stC_eq l]
structure PrcT where
 name : Str
 lens : List Str
 params : List ParT
 req : List ClaT
 ens : List ClaT
 body : List Stt
def PrcT.f (p : PrcT) : List LV := [.str p.name, .lst (strC p.lens) p.lens.length 1, .lst (parC p.params) p.params.length 4, .lst (claC p.req) p.req.length 3, .lst (claC p.ens) p.ens.length 3, .lst (stC p.body) p.body.length 9]
def prcC (l : List PrcT) : List LV := l.flatMap PrcT.f
theorem LenT.f_len (l : LenT) : l.f.length = 2 := rfl
theorem ArgT.f_len (l : ArgT) : l.f.length = 2 := rfl
theorem ParT.f_len (l : ParT) : l.f.length = 4 := rfl
theorem ClaT.f_len (l : ClaT) : l.f.length = 3 := rfl
theorem TypT.f_len (l : TypT) : l.f.length = 3 := rfl
theorem PrcT.f_len (l : PrcT) : l.f.length = 6 := rfl
theorem Stt.f_len : ∀ s : Stt, s.f.length = 9
 | .mk .. => by simp [Stt.f]
def okStr (s : Str) : Prop := s.length ≤ 9223372036854775807
def LenT.ok (l : LenT) : Prop := inI l.c ∧ l.ts.length ≤ 9223372036854775807 ∧ ∀ t ∈ l.ts, okStr t.1 ∧ inI t.2
def ArgT.ok (a : ArgT) : Prop := okStr a.name
def ParT.ok (p : ParT) : Prop := inI p.mode ∧ okStr p.name ∧ p.len.ok
def ClaT.ok (c : ClaT) : Prop := inI c.kind ∧ okStr c.a ∧ okStr c.b
def okL {α : Type} (ok : α → Prop) (l : List α) : Prop := l.length ≤ 9223372036854775807 ∧ ∀ a ∈ l, ok a
mutual
def Stt.ok : Stt → Prop
 | .mk k n l op as ns ls b => inI k ∧ okStr n ∧ l.ok ∧ okStr op ∧ okL ArgT.ok as ∧ okL okStr ns ∧ okL LenT.ok ls ∧ b.length ≤ 9223372036854775807 ∧ stsOk b
def stsOk : List Stt → Prop
 | [] => True
 | s :: l => s.ok ∧ stsOk l
end
theorem stsOk_iff : ∀ l : List Stt, stsOk l ↔ ∀ s ∈ l, s.ok
 | [] => by simp [stsOk]
 | s :: l => by rw [stsOk, stsOk_iff l]; simp
def PrcT.ok (p : PrcT) : Prop := okStr p.name ∧ okL okStr p.lens ∧ okL ParT.ok p.params ∧ okL ClaT.ok p.req ∧ okL ClaT.ok p.ens ∧ okL Stt.ok p.body
def IsTs (P : Program) (f : TypeId → List LV → Prop) : List TypeId → List LV → Prop
 | [], L => L = []
 | t :: l, L => ∃ a b, L = a ++ b ∧ f t a ∧ IsTs P f l b
theorem isFs_ts {P : Program} {f : TypeId → List LV → Prop} : ∀ {fs : List Field} {L : List LV}, IsFs P f fs L → IsTs P f (fs.map (·.type)) L
 | [], _, h => h
 | fd :: l, L, ⟨a, b, e, _, h1, h2⟩ => ⟨a, b, e, h1, isFs_ts h2⟩
section rd
variable {P : Program} {d : Nat} {t e : TypeId} {L : List LV}
theorem isv_i (hu : P.underlying t = some (.int .i64)) (h : IsV P d t L) : ∃ n, inI n ∧ L = [.i n] := by
 cases d with
 | zero => cases h
 | succ d => simpa only [IsV, hu] using h
theorem isv_u (hu : P.underlying t = some (.int .u64)) (h : IsV P d t L) : ∃ x, L = [.u x] := by
 cases d with
 | zero => cases h
 | succ d => simpa only [IsV, hu] using h
theorem isv_s (hu : P.underlying t = some .string) (h : IsV P d t L) : ∃ s : Str, okStr s ∧ L = [.str s] := by
 cases d with
 | zero => cases h
 | succ d =>
  simp only [IsV, hu] at h
  obtain ⟨l, h1, h2⟩ := h
  exact ⟨l, Nat.le_trans h1 (by decide), h2⟩
theorem isv_st {ts : List TypeId} (hu : ∃ fs, P.underlying t = some (.struct fs) ∧ fs.toList.map (·.type) = ts) (h : IsV P d t L) : ∃ d', d = d' + 1 ∧ IsTs P (IsV P d') ts L := by
 obtain ⟨fs, hu, rfl⟩ := hu
 cases d with
 | zero => cases h
 | succ d => exact ⟨d, rfl, isFs_ts (by simpa only [IsV, hu] using h)⟩
theorem isv_sl {α : Type} {enc : α → List LV} {ok : α → Prop} {k : Nat} (hu : P.underlying t = some (.slice e)) (hk : P.cellsOf e = k) (he : ∀ d', d = d' + 1 → ∀ x, IsV P d' e x → ∃ a, x = enc a ∧ ok a) (h : IsV P d t L) :
  ∃ l : List α, okL ok l ∧ L = [.lst (l.flatMap enc) l.length k] := by
 cases d with
 | zero => cases h
 | succ d =>
  simp only [IsV, hu] at h
  obtain ⟨xs, h1, h2, h3⟩ := h
  have key : ∀ xs : List (List LV), (∀ x ∈ xs, IsV P d e x ∧ x.length = P.cellsOf e) → ∃ l : List α, (∀ a ∈ l, ok a) ∧ xs.flatten = l.flatMap enc ∧ xs.length = l.length := by
   intro xs
   induction xs with
   | nil => intro _; exact ⟨[], by simp, rfl, rfl⟩
   | cons x xs ih =>
    intro hx
    obtain ⟨l, a1, a2, a3⟩ := ih fun y hy => hx y (by simp [hy])
    obtain ⟨a, rfl, ha⟩ := he d rfl x (hx x (by simp)).1
    exact ⟨a :: l, by simpa using ⟨ha, a1⟩, by simp [a2], by simp [a3]⟩
  obtain ⟨l, a1, a2, a3⟩ := key xs h2
  refine ⟨l, ⟨by rw [← a3]; exact Nat.le_trans h1 (by decide), a1⟩, ?_⟩
  rw [h3, a2, a3, hk]
end rd
structure SrcTy (P : Program) (tI tS tU tTerm tTerms tLen tArg tArgs tExpr tStrs tLens tStmt tStmts tPar tPars tCla tClas tPrc tPrcs : TypeId) : Prop where
 i : P.underlying tI = some (.int .i64)
 s : P.underlying tS = some .string
 u : P.underlying tU = some (.int .u64)
 term : ∃ fs, P.underlying tTerm = some (.struct fs) ∧ fs.toList.map (·.type) = [tS, tI]
 terms : P.underlying tTerms = some (.slice tTerm)
 len : ∃ fs, P.underlying tLen = some (.struct fs) ∧ fs.toList.map (·.type) = [tI, tTerms]
 arg : ∃ fs, P.underlying tArg = some (.struct fs) ∧ fs.toList.map (·.type) = [tS, tU]
 args : P.underlying tArgs = some (.slice tArg)
 expr : ∃ fs, P.underlying tExpr = some (.struct fs) ∧ fs.toList.map (·.type) = [tS, tArgs]
 strs : P.underlying tStrs = some (.slice tS)
 lens : P.underlying tLens = some (.slice tLen)
 stmt : ∃ fs, P.underlying tStmt = some (.struct fs) ∧ fs.toList.map (·.type) = [tI, tS, tLen, tExpr, tStrs, tLens, tStmts]
 stmts : P.underlying tStmts = some (.slice tStmt)
 par : ∃ fs, P.underlying tPar = some (.struct fs) ∧ fs.toList.map (·.type) = [tI, tS, tLen]
 pars : P.underlying tPars = some (.slice tPar)
 cla : ∃ fs, P.underlying tCla = some (.struct fs) ∧ fs.toList.map (·.type) = [tI, tS, tS]
 clas : P.underlying tClas = some (.slice tCla)
 prc : ∃ fs, P.underlying tPrc = some (.struct fs) ∧ fs.toList.map (·.type) = [tS, tStrs, tPars, tClas, tClas, tStmts]
 prcs : P.underlying tPrcs = some (.slice tPrc)
 cS : P.cellsOf tS = 1
 cTerm : P.cellsOf tTerm = 2
 cArg : P.cellsOf tArg = 2
 cLen : P.cellsOf tLen = 2
 cStmt : P.cellsOf tStmt = 9
 cPar : P.cellsOf tPar = 4
 cCla : P.cellsOf tCla = 3
 cPrc : P.cellsOf tPrc = 6
section src
variable {P : Program} {tI tS tU tTerm tTerms tLen tArg tArgs tExpr tStrs tLens tStmt tStmts tPar tPars tCla tClas tPrc tPrcs : TypeId}
variable (T : SrcTy P tI tS tU tTerm tTerms tLen tArg tArgs tExpr tStrs tLens tStmt tStmts tPar tPars tCla tClas tPrc tPrcs) {d : Nat} {L : List LV}
include T
theorem SrcTy.rTerm (h : IsV P d tTerm L) : ∃ t : Tm, L = [.str t.1, .i t.2] ∧ okStr t.1 ∧ inI t.2 := by
 obtain ⟨d', rfl, a1, b1, rfl, h1, a2, b2, rfl, h2, rfl⟩ := isv_st T.term h
 obtain ⟨s, hs, rfl⟩ := isv_s T.s h1
 obtain ⟨n, hn, rfl⟩ := isv_i T.i h2
 exact ⟨(s, n), rfl, hs, hn⟩
theorem SrcTy.rLen (h : IsV P d tLen L) : ∃ l : LenT, L = l.f ∧ l.ok := by
 obtain ⟨d', rfl, a1, b1, rfl, h1, a2, b2, rfl, h2, rfl⟩ := isv_st T.len h
 obtain ⟨n, hn, rfl⟩ := isv_i T.i h1
 obtain ⟨l, hl, rfl⟩ := isv_sl (enc := fun t : Tm => [.str t.1, .i t.2]) (ok := fun t => okStr t.1 ∧ inI t.2) T.terms T.cTerm (fun d' _ x hx => by obtain ⟨t, h1, h2⟩ := T.rTerm hx; exact ⟨t, h1, h2⟩) h2
 exact ⟨⟨n, l⟩, rfl, hn, hl.1, hl.2⟩
theorem SrcTy.rStrs (h : IsV P d tStrs L) : ∃ l : List Str, okL okStr l ∧ L = [.lst (strC l) l.length 1] := by
 obtain ⟨l, hl, rfl⟩ := isv_sl (enc := fun s : Str => [LV.str s]) (ok := okStr) T.strs T.cS (fun d' _ x hx => by obtain ⟨s, h1, h2⟩ := isv_s T.s hx; exact ⟨s, h2, h1⟩) h
 refine ⟨l, hl, ?_⟩
 have : ∀ l : List Str, l.flatMap (fun s => [LV.str s]) = strC l := by
  intro l
  induction l with
  | nil => rfl
  | cons s l ih => rw [List.flatMap_cons, ih]; rfl
 rw [this]
theorem SrcTy.rLens (h : IsV P d tLens L) : ∃ l : List LenT, okL LenT.ok l ∧ L = [.lst (lenC l) l.length 2] :=
 isv_sl T.lens T.cLen (fun d' _ x hx => T.rLen hx) h
theorem SrcTy.rArgs (h : IsV P d tArgs L) : ∃ l : List ArgT, okL ArgT.ok l ∧ L = [.lst (argC l) l.length 2] :=
 isv_sl T.args T.cArg (fun d' _ x hx => by
  obtain ⟨d', rfl, a1, b1, rfl, h1, a2, b2, rfl, h2, rfl⟩ := isv_st T.arg hx
  obtain ⟨s, hs, rfl⟩ := isv_s T.s h1
  obtain ⟨n, rfl⟩ := isv_u T.u h2
  exact ⟨⟨s, n⟩, rfl, hs⟩) h
theorem SrcTy.rStmt : ∀ (d : Nat), (∀ d' L, d' < d → IsV P d' tStmts L → ∃ l : List Stt, okL Stt.ok l ∧ L = [.lst (stC l) l.length 9]) → ∀ L, IsV P d tStmt L → ∃ s : Stt, L = s.f ∧ s.ok := by
 intro d ih L h
 obtain ⟨d', rfl, a1, b1, rfl, h1, a2, b2, rfl, h2, a3, b3, rfl, h3, a4, b4, rfl, h4, a5, b5, rfl, h5, a6, b6, rfl, h6, a7, b7, rfl, h7, rfl⟩ := isv_st T.stmt h
 obtain ⟨k, hk, rfl⟩ := isv_i T.i h1
 obtain ⟨n, hn, rfl⟩ := isv_s T.s h2
 obtain ⟨l, rfl, hl⟩ := T.rLen h3
 obtain ⟨d2, rfl, c1, e1, rfl, g1, c2, e2, rfl, g2, rfl⟩ := isv_st T.expr h4
 obtain ⟨op, hop, rfl⟩ := isv_s T.s g1
 obtain ⟨as, has, rfl⟩ := T.rArgs g2
 obtain ⟨ns, hns, rfl⟩ := T.rStrs h5
 obtain ⟨ls, hls, rfl⟩ := T.rLens h6
 obtain ⟨b, hb, rfl⟩ := ih _ _ (Nat.lt_succ_self _) h7
 exact ⟨.mk k n l op as ns ls b, by simp [Stt.f, LenT.f], by
  rw [Stt.ok]; exact ⟨hk, hn, hl, hop, has, hns, hls, hb.1, (stsOk_iff b).2 hb.2⟩⟩
theorem SrcTy.rStmts : ∀ (d : Nat) (L : List LV), IsV P d tStmts L → ∃ l : List Stt, okL Stt.ok l ∧ L = [.lst (stC l) l.length 9] := by
 intro d
 induction d using Nat.strongRecOn with
 | _ d ih =>
  intro L h
  obtain ⟨l, hl, rfl⟩ := isv_sl (enc := Stt.f) (ok := Stt.ok) T.stmts T.cStmt (fun d' e x hx => T.rStmt d' (fun d2 L2 h2 => ih d2 (by omega) L2) x hx) h
  exact ⟨l, hl, by rw [stC_eq]⟩
theorem SrcTy.rPrc (h : IsV P d tPrc L) : ∃ p : PrcT, L = p.f ∧ p.ok := by
 obtain ⟨d', rfl, a1, b1, rfl, h1, a2, b2, rfl, h2, a3, b3, rfl, h3, a4, b4, rfl, h4, a5, b5, rfl, h5, a6, b6, rfl, h6, rfl⟩ := isv_st T.prc h
 have cl : ∀ {d : Nat} {L : List LV}, IsV P d tClas L → ∃ l : List ClaT, okL ClaT.ok l ∧ L = [.lst (claC l) l.length 3] := fun h =>
  isv_sl T.clas T.cCla (fun d' _ x hx => by
   obtain ⟨d', rfl, a1, b1, rfl, h1, a2, b2, rfl, h2, a3, b3, rfl, h3, rfl⟩ := isv_st T.cla hx
   obtain ⟨k, hk, rfl⟩ := isv_i T.i h1
   obtain ⟨a, ha, rfl⟩ := isv_s T.s h2
   obtain ⟨b, hb, rfl⟩ := isv_s T.s h3
   exact ⟨⟨k, a, b⟩, rfl, hk, ha, hb⟩) h
 obtain ⟨n, hn, rfl⟩ := isv_s T.s h1
 obtain ⟨ls, hls, rfl⟩ := T.rStrs h2
 obtain ⟨ps, hps, rfl⟩ : ∃ l : List ParT, okL ParT.ok l ∧ a3 = [.lst (parC l) l.length 4] := isv_sl T.pars T.cPar (fun d' _ x hx => by
   obtain ⟨d', rfl, a1, b1, rfl, h1, a2, b2, rfl, h2, a3, b3, rfl, h3, rfl⟩ := isv_st T.par hx
   obtain ⟨k, hk, rfl⟩ := isv_i T.i h1
   obtain ⟨a, ha, rfl⟩ := isv_s T.s h2
   obtain ⟨l, rfl, hl⟩ := T.rLen h3
   exact ⟨⟨k, a, l⟩, by simp [ParT.f, LenT.f], hk, ha, hl⟩) h3
 obtain ⟨rs, hrs, rfl⟩ := cl h4
 obtain ⟨es, hes, rfl⟩ := cl h5
 obtain ⟨b, hb, rfl⟩ := T.rStmts _ _ h6
 exact ⟨⟨n, ls, ps, rs, es, b⟩, by simp [PrcT.f], hn, hls, hps, hrs, hes, hb⟩
theorem SrcTy.rPrcs (h : IsV P d tPrcs L) : ∃ l : List PrcT, okL PrcT.ok l ∧ L = [.lst (prcC l) l.length 6] :=
 isv_sl T.prcs T.cPrc (fun d' _ x hx => T.rPrc hx) h
end src
end Go.Sv
namespace Go.Sv
abbrev Sc := Str → Option TypT
def typ0 : TypT := ⟨[], false, 0⟩
def Sc.lacks (s : Sc) (n : Str) : Bool := (s n).isNone
def Sc.at_ (s : Sc) (n : Str) : TypT := (s n).getD typ0
def Sc.put (s : Sc) (v : TypT) : Sc := fun n => if n = v.name then some v else s n
def powS : Str := [112, 111, 119]
def argN (op : Str) : Int :=
 if op = [] then 1
 else if op = [43] ∨ op = [45] ∨ op = [42] ∨ op = [107, 109, 117, 108] ∨ op = [108, 116] ∨ op = [109, 111, 100] then 2
 else if op = [115, 101, 108] ∨ op = [97, 100, 100, 109] ∨ op = [115, 117, 98, 109] ∨ op = [109, 111, 110, 116] then 3
 else if op = powS then 4 else 0
def secE (s : Sc) (as : List ArgT) : Bool := as.any fun a => !decide (a.name = []) && (s.at_ a.name).sec
def lackE (s : Sc) (as : List ArgT) : Bool := as.any fun a => !decide (a.name = []) && s.lacks a.name
def ga (as : List ArgT) (i : Nat) : ArgT := as.getD i ⟨[], 0⟩
def exprE (s : Sc) (op : Str) (as : List ArgT) : Int :=
 if argN op = 0 ∨ (as.length : Int) ≠ argN op then 2
 else if lackE s as = true then 5
 else if op = powS ∧ ((ga as 3).name ≠ [] ∨ (ga as 3).num < 1 ∨ 6 < (ga as 3).num) then 2
 else 0
def givenT (v : TypT) : Bool := decide (v.mode = 1) || decide (v.mode = 2)
def hasS (l : List Str) (n : Str) : Bool := l.any fun m => decide (n = m)
def foreignE (ts : List Tm) (names : List Str) : Bool := ts.any fun t => !hasS names t.1
def hasT (l : List TypT) (n : Str) : Bool := l.any fun v => decide (v.name = n)
abbrev Out3 := Int × Sc × List TypT
def letE (lens : List Str) (n : Str) (l : LenT) (op : Str) (as : List ArgT) (s : Sc) (all : List TypT) : Out3 :=
 if (hasS lens n || hasT all n) = true then (6, s, all)
 else if foreignE l.ts lens = true then (5, s, all)
 else if exprE s op as ≠ 0 then (exprE s op as, s, all)
 else (0, s.put ⟨n, secE s as, 0⟩, all ++ [⟨n, secE s as, 0⟩])
def setE (n : Str) (op : Str) (as : List ArgT) (s : Sc) : Int :=
 match s n with
 | none => 5
 | some v => if givenT v = true then 2 else if exprE s op as ≠ 0 then exprE s op as else if (!v.sec && secE s as) = true then 12 else 0
def gn (ns : List Str) (i : Nat) : Str := ns.getD i []
def swapE (ns : List Str) (s : Sc) : Int :=
 if ns.length ≠ 3 then 2
 else if ns.any s.lacks = true then 5
 else if gn ns 1 = gn ns 2 ∨ givenT (s.at_ (gn ns 1)) = true ∨ givenT (s.at_ (gn ns 2)) = true then 2
 else if (((s.at_ (gn ns 0)).sec || ((s.at_ (gn ns 1)).sec || (s.at_ (gn ns 2)).sec)) && !((s.at_ (gn ns 1)).sec && (s.at_ (gn ns 2)).sec)) = true then 12
 else 0
def handedE (p : ParT) (v : TypT) (ns : List Str) : Int :=
 if p.mode = 1 ∧ v.sec = true then 12
 else if p.mode ≠ 3 then 0
 else if givenT v = true then 2
 else if v.sec = false then 12
 else if hasS (ns.drop (ixZ (fun n => decide (v.name = n)) ns + 1).toNat) v.name = true then 6
 else 0
def handsE (s : Sc) (ns : List Str) : List ParT → Nat → Int
 | [], _ => 0
 | p :: l, i => if handedE p (s.at_ (gn ns i)) ns ≠ 0 then handedE p (s.at_ (gn ns i)) ns else handsE s ns l (i + 1)
def gp (l : List PrcT) (i : Nat) : PrcT := l.getD i ⟨[], [], [], [], [], []⟩
def calF (lens : List Str) (ns : List Str) (ls : List LenT) (s : Sc) (f : PrcT) : Int :=
 if ls.length ≠ f.lens.length ∨ ns.length ≠ f.params.length then 2
 else if ((ls.any fun l => foreignE l.ts lens) || ns.any fun n => s.lacks n) = true then 5
 else handsE s ns f.params 0
def calE (ahead : List PrcT) (lens : List Str) (n : Str) (ns : List Str) (ls : List LenT) (s : Sc) : Int :=
 if ixZ (fun p => decide (p.name = n)) ahead < 0 then 5 else calF lens ns ls s (gp ahead (ixZ (fun p => decide (p.name = n)) ahead).toNat)
mutual
def stmtE (ahead : List PrcT) (lens : List Str) : Stt → Sc → List TypT → Out3
 | .mk k n l op as ns ls b, s, all =>
  if k = 1 then letE lens n l op as s all
  else if k = 2 then (setE n op as s, s, all)
  else if k = 3 then if foreignE l.ts lens = true then (5, s, all) else ((bodyE ahead lens b s all).1, s, (bodyE ahead lens b s all).2.2)
  else if k = 4 then (swapE ns s, s, all)
  else if k = 5 then (calE ahead lens n ns ls s, s, all)
  else (2, s, all)
def bodyE (ahead : List PrcT) (lens : List Str) : List Stt → Sc → List TypT → Out3
 | [], s, all => (0, s, all)
 | x :: l, s, all =>
  if (stmtE ahead lens x s all).1 = 0 then bodyE ahead lens l (stmtE ahead lens x s all).2.1 (stmtE ahead lens x s all).2.2
  else stmtE ahead lens x s all
end
mutual
def cntS : Stt → Nat
 | .mk _ _ _ _ _ _ _ b => 1 + cntL b
def cntL : List Stt → Nat
 | [] => 0
 | s :: l => cntS s + cntL l
end
theorem letE_len {lens : List Str} {n : Str} {l : LenT} {op : Str} {as : List ArgT} {s : Sc} {all : List TypT} : (letE lens n l op as s all).2.2.length ≤ all.length + 1 := by
 unfold letE
 split
 ·simp
 ·split
  ·simp
  ·split <;> simp
mutual
theorem stmtE_len (ahead : List PrcT) (lens : List Str) : ∀ (x : Stt) (s : Sc) (all : List TypT), (stmtE ahead lens x s all).2.2.length ≤ all.length + cntS x
 | .mk k n l op as ns ls b, s, all => by
  have h1 := letE_len (lens := lens) (n := n) (l := l) (op := op) (as := as) (s := s) (all := all)
  have h2 := bodyE_len ahead lens b s all
  unfold stmtE cntS
  by_cases k1 : k = 1
  ·rw [if_pos k1]; omega
  rw [if_neg k1]
  by_cases k2 : k = 2
  ·rw [if_pos k2]; dsimp only; omega
  rw [if_neg k2]
  by_cases k3 : k = 3
  ·rw [if_pos k3]
   split
   ·dsimp only; omega
   ·dsimp only; omega
  rw [if_neg k3]
  split
  ·dsimp only; omega
  ·split <;> (dsimp only; omega)
theorem bodyE_len (ahead : List PrcT) (lens : List Str) : ∀ (b : List Stt) (s : Sc) (all : List TypT), (bodyE ahead lens b s all).2.2.length ≤ all.length + cntL b
 | [], s, all => by simp [bodyE]
 | x :: l, s, all => by
  have h1 := stmtE_len ahead lens x s all
  have h2 := bodyE_len ahead lens l (stmtE ahead lens x s all).2.1 (stmtE ahead lens x s all).2.2
  unfold bodyE cntL
  split <;> omega
end
def visE (l : List TypT) : Sc := fun n => l.find? fun v => decide (v.name = n)
def claN (c : ClaT) : List Str := if c.kind = 2 then [c.a, c.b] else [c.a]
def claE (all : List TypT) (rq : Bool) (c : ClaT) : Int :=
 if ¬ (c.kind = 1 ∨ c.kind = 2 ∨ c.kind = 3) then 2
 else if (claN c).any (visE all).lacks = true then 5
 else if (rq && (claN c).any fun n => decide (((visE all).at_ n).mode = 3)) = true then 2
 else 0
def clasE (all : List TypT) (rq : Bool) : List ClaT → Int
 | [] => 0
 | c :: l => if claE all rq c ≠ 0 then claE all rq c else clasE all rq l
def parE (lens : List Str) (all : List TypT) (p : ParT) : Int :=
 if (hasS lens p.name || hasT all p.name) = true then 6
 else if foreignE p.len.ts lens = true then 5
 else if p.mode < 1 ∨ 3 < p.mode then 2 else 0
def parsE (lens : List Str) : List ParT → List TypT → Int × List TypT
 | [], all => (0, all)
 | p :: l, all => if parE lens all p ≠ 0 then (parE lens all p, all) else parsE lens l (all ++ [⟨p.name, !decide (p.mode = 1), p.mode⟩])
def disE : List Str → List Str → List Str
 | [], k => k
 | n :: l, k => disE l (if hasS k n = true then k else k ++ [n])
def lookE (ahead : List PrcT) (p : PrcT) : Int × List TypT :=
 if (ahead.any fun q => decide (q.name = p.name)) = true then (6, [])
 else if (disE p.lens []).length ≠ p.lens.length then (6, [])
 else if (parsE p.lens p.params []).1 ≠ 0 then parsE p.lens p.params []
 else if clasE (parsE p.lens p.params []).2 true p.req ≠ 0 then (clasE (parsE p.lens p.params []).2 true p.req, (parsE p.lens p.params []).2)
 else if clasE (parsE p.lens p.params []).2 false p.ens ≠ 0 then (clasE (parsE p.lens p.params []).2 false p.ens, (parsE p.lens p.params []).2)
 else ((bodyE ahead p.lens p.body (visE (parsE p.lens p.params []).2) (parsE p.lens p.params []).2).1, (bodyE ahead p.lens p.body (visE (parsE p.lens p.params []).2) (parsE p.lens p.params []).2).2.2)
def checkF (l : List PrcT) : List PrcT → Nat → Nat × Int
 | [], i => (i, 0)
 | p :: r, i => if (lookE (l.take i) p).1 ≠ 0 then (i, (lookE (l.take i) p).1) else checkF l r (i + 1)
def checkE (l : List PrcT) : Nat × Int := if l = [] then (0, 2) else checkF l l 0
mutual
def depS (calls : Str → Int) : Stt → Int
 | .mk k n _ _ _ _ _ b => if k = 3 then 1 + depL calls b else if k = 5 then calls n else 0
def depL (calls : Str → Int) : List Stt → Int
 | [] => 0
 | s :: l => max (depS calls s) (depL calls l)
end
def depC : List PrcT → (Str → Int) → (Str → Int)
 | [], c => c
 | p :: l, c => depC l fun n => if n = p.name then depL c p.body else c n
end Go.Sv
namespace Go.Sv
theorem ixZ_in {α : Type} (p : α → Bool) (l : List α) : ixZ p l = -1 ∨ (0 ≤ ixZ p l ∧ ixZ p l < l.length) := by
 unfold ixZ
 by_cases h : l.findIdx p < l.length
 ·rw [if_pos h]; exact .inr ⟨by omega, by omega⟩
 ·rw [if_neg h]; exact .inl rfl
abbrev Ens := List (Str × TypT × Nat)
def scM (es : Ens) : List (LV × LV × Nat) := es.map fun x => (.str x.1, .agg x.2.1.f, x.2.2)
def scF (es : Ens) : Sc := fun n => (es.find? fun x => decide (n = x.1)).map (·.2.1)
def scPut (n : Str) (v : TypT) (ck : Nat) : Ens → Ens
 | [] => [(n, v, ck)]
 | (m, w, c) :: l => if n = m then (n, v, c) :: l else (m, w, c) :: scPut n v ck l
theorem find_sc {n : Str} {KO : Option LV → Prop} : ∀ (es : Ens), findL .string (.str n) KO (scM es) = KO ((scF es n).map fun v => .agg v.f)
 | [] => rfl
 | (m, w, c) :: l => by
  have ih := find_sc (n := n) (KO := KO) l
  show findL .string (.str n) KO ((.str m, .agg w.f, c) :: scM l) = _
  rw [findL_cons, keyL_s, keyB_some, ih]
  by_cases h : n = m
  ·subst h; simp [scF]
  ·simp [scF, h]
theorem put_sc {n : Str} {v : TypT} {ck : Nat} : ∀ (es : Ens) {KB : List (LV × LV × Nat) → Bool → Prop}, putL .string (.str n) (.agg v.f) ck KB (scM es) = KB (scM (scPut n v ck es)) (scF es n).isNone
 | [], _ => rfl
 | (m, w, c) :: l, KB => by
  show putL .string (.str n) (.agg v.f) ck KB ((.str m, .agg w.f, c) :: scM l) = _
  rw [putL_cons, keyL_s, keyB_some]
  by_cases h : n = m
  ·subst h; simp [scF, scPut, scM]
  ·rw [put_sc l]
   simp [scF, scPut, h, scM]
theorem scF_put {n : Str} {v : TypT} {ck : Nat} (hv : v.name = n) : ∀ (es : Ens), scF (scPut n v ck es) = (scF es).put v
 | [] => by
  funext x
  simp only [scPut, scF, Sc.put, List.find?_cons, List.find?_nil, hv]
  by_cases h : x = n <;> simp [h]
 | (m, w, c) :: l => by
  have ih := scF_put (ck := ck) hv l
  funext x
  have ihx := congrFun ih x
  simp only [scF, Sc.put, hv] at ihx ⊢
  by_cases h : n = m
  ·subst h
   simp only [scPut, if_true, List.find?_cons]
   by_cases hx : x = n <;> simp [hx]
  ·simp only [scPut, if_neg h, List.find?_cons]
   by_cases hx : x = m
   ·have : ¬ x = n := fun e => h (by rw [← e, hx])
    simp [hx]
    intro e; exact absurd e.symm h
   ·simp only [hx, decide_false]
    exact ihx
def snM (es : List (Str × Nat)) : List (LV × LV × Nat) := es.map fun x => (.str x.1, .agg [], x.2)
def snPut (n : Str) (ck : Nat) : List (Str × Nat) → List (Str × Nat)
 | [] => [(n, ck)]
 | (m, c) :: l => if n = m then (m, c) :: l else (m, c) :: snPut n ck l
theorem put_sn {n : Str} {ck : Nat} : ∀ (es : List (Str × Nat)) {KB : List (LV × LV × Nat) → Bool → Prop}, putL .string (.str n) (.agg []) ck KB (snM es) = KB (snM (snPut n ck es)) (!hasS (es.map (·.1)) n)
 | [], _ => rfl
 | (m, c) :: l, KB => by
  show putL .string (.str n) (.agg []) ck KB ((.str m, .agg [], c) :: snM l) = _
  rw [putL_cons, keyL_s, keyB_some]
  by_cases h : n = m
  ·subst h; simp [snPut, snM, hasS]
  ·rw [put_sn l]
   simp [snPut, h, snM, hasS]
theorem snPut_keys {n : Str} {ck : Nat} : ∀ (es : List (Str × Nat)), (snPut n ck es).map (·.1) = if hasS (es.map (·.1)) n = true then es.map (·.1) else es.map (·.1) ++ [n]
 | [] => rfl
 | (m, c) :: l => by
  have ih := snPut_keys (n := n) (ck := ck) l
  by_cases h : n = m
  ·subst h; simp [snPut, hasS]
  ·simp only [snPut, if_neg h, List.map_cons, ih]
   have : hasS (m :: l.map (·.1)) n = hasS (l.map (·.1)) n := by simp [hasS, h]
   rw [this]
   split <;> simp
end Go.Sv
namespace Go.Sv
theorem strC_dats' (l : List Str) : dats (strC l) = true := dats_map (fun _ => rfl) l
theorem argC_dats (l : List ArgT) : dats (argC l) = true := fm_dats (fun _ => rfl) l
theorem tmC_dats' (l : List Tm) : dats (tmC l) = true := fm_dats (fun _ => rfl) l
theorem lenC_dats (l : List LenT) : dats (lenC l) = true := fm_dats (fun a => by simp [LenT.f, dats, LV.dat, tmC_dats']) l
theorem parC_dats (l : List ParT) : dats (parC l) = true := fm_dats (fun a => by simp [ParT.f, dats, LV.dat, tmC_dats']) l
theorem claC_dats (l : List ClaT) : dats (claC l) = true := fm_dats (fun _ => rfl) l
mutual
theorem Stt.f_dats : ∀ s : Stt, dats s.f = true
 | .mk k n l op as ns ls b => by
  have := stC_dats b
  simp [Stt.f, dats, LV.dat, tmC_dats', argC_dats, strC_dats', lenC_dats, this]
theorem stC_dats : ∀ l : List Stt, dats (stC l) = true
 | [] => rfl
 | s :: l => by
  rw [stC]
  exact dats_app (Stt.f_dats s) (stC_dats l)
end
theorem PrcT.f_dats (p : PrcT) : dats p.f = true := by simp [PrcT.f, dats, LV.dat, strC_dats', parC_dats, claC_dats, stC_dats]
theorem prcC_dats (l : List PrcT) : dats (prcC l) = true := fm_dats PrcT.f_dats l
theorem prcC_len (l : List PrcT) : (prcC l).length = l.length * 6 := fm_len PrcT.f_len l
theorem prcC_take (l : List PrcT) (i : Nat) : (prcC l).take (i * 6) = prcC (l.take i) := fm_takeN PrcT.f_len l i
def SrcOk (l : List PrcT) : Prop := okL PrcT.ok l ∧ ∀ p ∈ l, p.params.length + cntL p.body ≤ 1000000000
def mayE (l : List PrcT) (i : Int) : Bool := decide ((checkE l).2 = 0) && (decide (0 ≤ i) && decide (i < l.length))
def depE (l : List PrcT) (i : Int) : Int := if mayE l i = true then depC (l.take (i.toNat + 1)) (fun _ => 0) (gp l i.toNat).name else 0
theorem gp_at {l : List PrcT} {i : Nat} (h : i < l.length) : l[i]? = some (gp l i) := by simp [gp, List.getD_eq_getElem?_getD, h]
theorem checkF_cut {l r : List PrcT} {i j : Nat} {p : PrcT} (h : r[j]? = some p) : checkF l (r.drop j) i = if (lookE (l.take i) p).1 ≠ 0 then (i, (lookE (l.take i) p).1) else checkF l (r.drop (j + 1)) (i + 1) := by
 have hj := (List.getElem?_eq_some_iff.1 h).1
 rw [List.drop_eq_getElem_cons hj]
 have : r[j] = p := by have := List.getElem?_eq_getElem hj; rw [h] at this; exact (Option.some.inj this).symm
 rw [this, checkF]
end Go.Sv
namespace Go.Sv
abbrev Des := List (Str × Int × Nat)
def deM (es : Des) : List (LV × LV × Nat) := es.map fun x => (.str x.1, .i x.2.1, x.2.2)
def deF (es : Des) : Str → Int := fun n => ((es.find? fun x => decide (n = x.1)).map (·.2.1)).getD 0
def dePut (n : Str) (v : Int) (ck : Nat) : Des → Des
 | [] => [(n, v, ck)]
 | (m, w, c) :: l => if n = m then (n, v, c) :: l else (m, w, c) :: dePut n v ck l
theorem find_de {n : Str} {KO : Option LV → Prop} : ∀ (es : Des), findL .string (.str n) KO (deM es) = KO ((es.find? fun x => decide (n = x.1)).map fun x => .i x.2.1)
 | [] => rfl
 | (m, w, c) :: l => by
  have ih := find_de (n := n) (KO := KO) l
  show findL .string (.str n) KO ((.str m, .i w, c) :: deM l) = _
  rw [findL_cons, keyL_s, keyB_some, ih]
  by_cases h : n = m
  ·subst h; simp
  ·simp [h]
theorem put_de {n : Str} {v : Int} {ck : Nat} : ∀ (es : Des) {KB : List (LV × LV × Nat) → Bool → Prop}, putL .string (.str n) (.i v) ck KB (deM es) = KB (deM (dePut n v ck es)) (es.find? fun x => decide (n = x.1)).isNone
 | [], _ => rfl
 | (m, w, c) :: l, KB => by
  show putL .string (.str n) (.i v) ck KB ((.str m, .i w, c) :: deM l) = _
  rw [putL_cons, keyL_s, keyB_some]
  by_cases h : n = m
  ·subst h; simp [dePut, deM]
  ·rw [put_de l]
   simp [dePut, h, deM]
theorem deF_put {n : Str} {v : Int} {ck : Nat} : ∀ (es : Des), deF (dePut n v ck es) = fun x => if x = n then v else deF es x
 | [] => by
  funext x
  simp only [dePut, deF, List.find?_cons, List.find?_nil]
  by_cases h : x = n <;> simp [h]
 | (m, w, c) :: l => by
  have ih := deF_put (n := n) (v := v) (ck := ck) l
  funext x
  have ihx := congrFun ih x
  simp only [deF] at ihx ⊢
  by_cases h : n = m
  ·subst h
   simp only [dePut, if_true, List.find?_cons]
   by_cases hx : x = n <;> simp [hx]
  ·simp only [dePut, if_neg h, List.find?_cons]
   by_cases hx : x = m
   ·have : ¬ x = n := fun e => h (by rw [← e, hx])
    simp [hx]
    intro e; exact absurd e.symm h
   ·simp only [hx, decide_false]
    exact ihx
mutual
theorem depS_le {c : Str → Int} {M : Int} (hM : 0 ≤ M) (hc : ∀ n, c n ≤ M) : ∀ x : Stt, depS c x ≤ M + cntS x
 | .mk k n l op as ns ls b => by
  have h1 := depL_le hM hc b
  have h2 := hc n
  unfold depS cntS
  split
  ·omega
  ·split <;> omega
theorem depL_le {c : Str → Int} {M : Int} (hM : 0 ≤ M) (hc : ∀ n, c n ≤ M) : ∀ b : List Stt, depL c b ≤ M + cntL b
 | [] => by simp [depL]; omega
 | x :: l => by
  have h1 := depS_le hM hc x
  have h2 := depL_le hM hc l
  unfold depL cntL
  omega
end
theorem depL_ge {c : Str → Int} : ∀ b : List Stt, 0 ≤ depL c b
 | [] => by simp [depL]
 | x :: l => by have := depL_ge (c := c) l; unfold depL; omega
theorem depL_cut {c : Str → Int} {b : List Stt} {i : Nat} {x : Stt} (h : b[i]? = some x) : depL c (b.drop i) = max (depS c x) (depL c (b.drop (i + 1))) := by
 have hi := (List.getElem?_eq_some_iff.1 h).1
 rw [List.drop_eq_getElem_cons hi]
 have : b[i] = x := by have := List.getElem?_eq_getElem hi; rw [h] at this; exact (Option.some.inj this).symm
 rw [this, depL]
end Go.Sv
