/- The logic's code: what a piece of code comes to. -/
import Derived.Test.YtlfffpmdofacjaaLgOpn
namespace Go.Sv

/-! ### Regions, resolved -/
structure RI where
  d : Option Nat
  g : Option (Nat × Bool)
  o : ROp
noncomputable def dstOk (n : Nat) : Option Nat → Bool
  | none => true
  | some d => Nat.blt d n
noncomputable def resItem (P : Program) (n : Nat) (ops : Array Oper) (o : Oper) : Option RI :=
  match dstOk n o.dst with
  | false => none
  | true => match resOp P o.op with
    | none => none
    | some r => match o.guard with
      | none => some ⟨o.dst, none, r⟩
      | some (j, w) => match (ops[j]?).bind (·.dst) with
        | none => none
        | some t => match Nat.ble t lim with
          | true => some ⟨o.dst, some (t, w), r⟩
          | false => none
noncomputable def resItems (P : Program) (n : Nat) (ops : Array Oper) : List Oper → Option (List RI)
  | [] => some []
  | o :: l => match resItem P n ops o with
    | none => none
    | some r => match resItems P n ops l with
      | none => none
      | some rs => some (r :: rs)

structure LI where
  d : Option Nat
  g : Option (Nat × Bool)
  o : LOp
noncomputable def LI.r (x : LI) : RI := ⟨x.d, x.g, x.o.r⟩
noncomputable def lis : List LI → List RI
  | [] => []
  | x :: l => x.r :: lis l

noncomputable def grd (g : Option (Nat × Bool)) (E : Tr AV) : Bool := match g with
  | none => true
  | some (t, w) => match getP (pathOf t) E with
    | some (.bool b) => match b with
      | true => w
      | false => !w
    | _ => false
noncomputable def runRI (P : Program) (x : RI) (k : CallT) (E : Tr AV) (H : Heap) : OE := match grd x.g E with
  | false => .ok (putE x.d undefA E) H
  | true => match evR P (ρA E) H x.o with
    | .no => .no
    | .val v H' => .ok (putE x.d v E) H'
    | .call t args => match k t args H with
      | .no => .no
      | .ok v H' => .ok (putE x.d v E) H'
theorem compOper_res {P : Program} {n : Nat} {ops : Array Oper} {o : Oper} {x : RI} (h : resItem P n ops o = some x) (k : CallT) (E : Tr AV) (H : Heap) : (compOper P n ops o).run k E H = runRI P x k E H := by
  unfold resItem at h
  cases hd : dstOk n o.dst with
  | false => rw [hd] at h; cases h
  | true =>
    rw [hd] at h
    dsimp only at h
    cases hr : resOp P o.op with
    | none => rw [hr] at h; cases h
    | some r =>
      rw [hr] at h
      dsimp only at h
      have hp : ∃ p, putF n o.dst = some p ∧ ∀ a E, p.run a E = putE o.dst a E := by
        cases hdd : o.dst with
        | none => exact ⟨_, rfl, fun _ _ => rfl⟩
        | some d =>
          rw [hdd] at hd
          have hlt : d < n := Nat.le_of_ble_eq_true hd
          unfold putF
          dsimp only
          rw [if_pos hlt]
          exact ⟨_, rfl, fun _ _ => rfl⟩
      obtain ⟨p, hp1, hp2⟩ := hp
      have hx : x.d = o.dst ∧ x.o = r ∧ (guardF ops o).run E = grd x.g E := by
        cases hg : o.guard with
        | none =>
          rw [hg] at h
          cases h
          refine ⟨rfl, rfl, ?_⟩
          unfold guardF
          rw [hg]
          rfl
        | some jw =>
          obtain ⟨j, w⟩ := jw
          rw [hg] at h
          dsimp only at h
          cases ht : (ops[j]?).bind (·.dst) with
          | none => rw [ht] at h; cases h
          | some t =>
            rw [ht] at h
            dsimp only at h
            cases hl : Nat.ble t lim with
            | false => rw [hl] at h; cases h
            | true =>
              rw [hl] at h
              cases h
              refine ⟨rfl, rfl, ?_⟩
              unfold guardF
              rw [hg]
              dsimp only
              rw [ht]
              dsimp only
              rw [if_pos (Nat.le_of_ble_eq_true hl)]
              rfl
      obtain ⟨h1, h2, h3⟩ := hx
      unfold compOper runRI
      rw [hp1]
      dsimp only
      rw [h3, h1, h2, resOp_ok (EnvR_ρA E) hr H]
      cases grd x.g E with
      | false => simp only [hp2]
      | true =>
        dsimp only
        cases evR P (ρA E) H r with
        | no => rfl
        | val v H' => simp only [hp2]
        | call t args =>
          dsimp only
          cases k t args H with
          | no => rfl
          | ok v H' => simp only [hp2]
theorem runRI_mono {P : Program} {x : RI} {k k' : CallT} (hk : k.le k') {E E' : Tr AV} {H H' : Heap} (h : runRI P x k E H = .ok E' H') : runRI P x k' E H = .ok E' H' := by
  unfold runRI at h ⊢
  cases hg : grd x.g E with
  | false => rw [hg] at h; exact h
  | true =>
    rw [hg] at h
    dsimp only at h ⊢
    cases hr : evR P (ρA E) H x.o with
    | no => rw [hr] at h; cases h
    | val v H2 => rw [hr] at h; exact h
    | call t args =>
      rw [hr] at h
      dsimp only at h ⊢
      cases hc : k t args H with
      | no => rw [hc] at h; cases h
      | ok v H2 => rw [hc] at h; rw [hk _ _ _ _ _ hc]; exact h

/-! ### Items -/
def updL (ρ : LEnv) (d : Option Nat) (v : LV) : LEnv := match d with
  | none => ρ
  | some d => (d, v) :: ρ
/-- A temporary whose value has come out. -/
def setL (t : Nat) (v : LV) : LEnv → LEnv
  | [] => []
  | (d, x) :: l => if t = d then (d, v) :: l else (d, x) :: setL t v l
noncomputable def ItL (P : Program) (x : LI) (ρ : LEnv) (G : LHeap) (K : LEnv → LHeap → Prop) : Prop := match x.g with
  | none => OpL P ρ G x.o fun v G' => K (updL ρ x.d v) G'
  | some (t, true) => brV (lk ρ t) (OpL P (setL t (.bool true) ρ) G x.o fun v G' => K (updL (setL t (.bool true) ρ) x.d v) G') (K (updL (setL t (.bool false) ρ) x.d (.tup [])) G)
  | some (t, false) => brV (lk ρ t) (K (updL (setL t (.bool true) ρ) x.d (.tup [])) G) (OpL P (setL t (.bool false) ρ) G x.o fun v G' => K (updL (setL t (.bool false) ρ) x.d v) G')
theorem brV_bool {v : LV} {A B : Prop} (h : brV v A B) : ∃ b, v = .bool b ∧ (b = true → A) ∧ (b = false → B) := by
  cases v with
  | bool b => exact ⟨b, rfl, h⟩
  | _ => exact h.elim
theorem ItL_guard {P : Program} {x : LI} {t : Nat} {w : Bool} (hg : x.g = some (t, w)) {ρ : LEnv} {G : LHeap} {K : LEnv → LHeap → Prop} (h : ItL P x ρ G K) :
    ∃ b, lk ρ t = .bool b ∧ (b = w → OpL P (setL t (.bool w) ρ) G x.o fun v G' => K (updL (setL t (.bool w) ρ) x.d v) G') ∧ (b = !w → K (updL (setL t (.bool (!w)) ρ) x.d (.tup [])) G) := by
  unfold ItL at h
  rw [hg] at h
  cases w with
  | true => exact brV_bool h
  | false =>
    obtain ⟨b, e, h1, h2⟩ := brV_bool h
    exact ⟨b, e, h2, h1⟩
noncomputable def OpsL (P : Program) : List LI → LEnv → LHeap → (LEnv → LHeap → Prop) → Prop
  | [], ρ, G, K => K ρ G
  | x :: l, ρ, G, K => ItL P x ρ G fun ρ' G' => OpsL P l ρ' G' K

theorem EnvL.put {c : Cx} {ρ : LEnv} {E : Tr AV} (h : EnvL c ρ E) {v : LV} {a : AV} (ha : AR c v a) (d : Option Nat) : EnvL c (updL ρ d v) (putE d a E) := by
  cases d with
  | none => exact h
  | some d =>
    intro t
    show AR c (lk ((d, v) :: ρ) t) ((getP (pathOf t) (setP a (pathOf d) E)).getD undefA)
    rw [get_set, lk_cons]
    by_cases e : t = d
    · rw [if_pos e, if_pos e]; exact ha
    · rw [if_neg e, if_neg e]; exact h t

theorem lk_setL (t : Nat) (v : LV) : ∀ (ρ : LEnv) (t' : Nat), lk (setL t v ρ) t' = lk ρ t' ∨ (t' = t ∧ lk (setL t v ρ) t' = v)
  | [], _ => .inl rfl
  | (d, x) :: l, t' => by
    simp only [setL]
    by_cases h : t = d
    · rw [if_pos h]
      simp only [lk_cons]
      by_cases h2 : t' = d
      · rw [if_pos h2]; exact .inr ⟨by omega, rfl⟩
      · rw [if_neg h2, if_neg h2]; exact .inl rfl
    · rw [if_neg h]
      simp only [lk_cons]
      by_cases h2 : t' = d
      · rw [if_pos h2, if_pos h2]; exact .inl rfl
      · rw [if_neg h2, if_neg h2]; exact lk_setL t v l t'
theorem EnvL.setL {c : Cx} {ρ : LEnv} {E : Tr AV} (h : EnvL c ρ E) {t : Nat} {v : LV} (ha : AR c v ((getP (pathOf t) E).getD undefA)) : EnvL c (Sv.setL t v ρ) E := by
  intro t'
  rcases lk_setL t v ρ t' with e | ⟨rfl, e⟩
  · rw [e]; exact h t'
  · rw [e]; exact ha
section run
variable {P : Program} {c : Cx} {G : LHeap}
theorem ItL_ok (hs : HSim c G) {ρ : LEnv} {E : Tr AV} (hE : EnvL c ρ E) {x : LI} (hok : x.o.ok = true) {K : LEnv → LHeap → Prop} (h : ItL P x ρ G K) :
    ∃ m E' c' ρ' G', runRI P x.r (callA P noO m) E c.H = .ok E' c'.H ∧ HSim c' G' ∧ Step c G c' G' ∧ EnvL c' ρ' E' ∧ K ρ' G' := by
  have main : ∀ ρ, EnvL c ρ E → (OpL P ρ G x.o fun v G' => K (updL ρ x.d v) G') → grd x.g E = true → ∃ m E' c' ρ' G', runRI P x.r (callA P noO m) E c.H = .ok E' c'.H ∧ HSim c' G' ∧ Step c G c' G' ∧ EnvL c' ρ' E' ∧ K ρ' G' := by
    intro ρ hE h hg
    have hr := OpL_ok hs hE hok h
    unfold OpRes at hr
    unfold runRI
    rw [show x.r.g = x.g from rfl, hg]
    dsimp only [LI.r]
    cases he : evR P (ρA E) c.H x.o.r with
    | no => rw [he] at hr; exact hr.elim
    | val v1 H' =>
      rw [he] at hr
      obtain ⟨c', v, G', rfl, q2, q3, q4, q5⟩ := hr
      exact ⟨0, _, c', _, G', rfl, q2, q3, (hE.mono q3.le).put q4 x.d, q5⟩
    | call t1 args1 =>
      rw [he] at hr
      obtain ⟨t, args, q1, q2, _, q3⟩ := hr
      obtain ⟨m, v1, H', r1, c', v, G', rfl, r3, r4, r5, r6⟩ := q3 c t1 args1 hs q1 q2
      refine ⟨m, _, c', _, G', ?_, r3, r4, (hE.mono r4.le).put r5 x.d, r6⟩
      dsimp only
      rw [r1]
  cases hgx : x.g with
  | none =>
    unfold ItL at h
    rw [hgx] at h
    exact main ρ hE h (by rw [hgx]; rfl)
  | some tw =>
    obtain ⟨t, w⟩ := tw
    have hg := hgx
    obtain ⟨b, hb, h⟩ := ItL_guard hgx h
    · have ht := hE t
      rw [hb] at ht
      have hget : getP (pathOf t) E = some (.bool b) := by
        cases hq : getP (pathOf t) E with
        | none => rw [hq] at ht; cases ht
        | some a => rw [hq] at ht; cases ht; rfl
      by_cases e : b = w
      · refine main _ (hE.setL (by rw [hget, ← e]; exact .bool b)) (h.1 e) ?_
        rw [hg]
        unfold grd
        dsimp only
        rw [hget, e]
        cases w <;> rfl
      · have e' : b = !w := by cases b <;> cases w <;> simp_all
        refine ⟨0, _, c, _, G, ?_, hs, .refl c G, (hE.setL (by rw [hget, ← e']; exact .bool b)).put (.tup .nil) x.d, h.2 e'⟩
        have hgf : grd x.g E = false := by
          rw [hg]
          unfold grd
          dsimp only
          rw [hget, e']
          cases w <;> rfl
        unfold runRI
        rw [show x.r.g = x.g from rfl, hgf]
        rfl

theorem OpsL_ok {n : Nat} {ops : Array Oper} : ∀ {l : List LI} {os : List Oper} {c : Cx} {G : LHeap} {ρ : LEnv} {E : Tr AV} {K : LEnv → LHeap → Prop}, resItems P n ops os = some (lis l) → l.all (·.o.ok) = true → HSim c G → EnvL c ρ E → OpsL P l ρ G K →
    ∃ m E' c' ρ' G', (compOps P n ops os).run (callA P noO m) E c.H = .ok E' c'.H ∧ HSim c' G' ∧ Step c G c' G' ∧ EnvL c' ρ' E' ∧ K ρ' G'
  | [], os, c, G, ρ, E, K, hr, _, hs, hE, h => by
    cases os with
    | nil => exact ⟨0, E, c, ρ, G, rfl, hs, .refl c G, hE, h⟩
    | cons o os =>
      simp only [resItems] at hr
      split at hr
      · cases hr
      · split at hr <;> cases hr
  | x :: l, os, c, G, ρ, E, K, hr, hok, hs, hE, h => by
    cases os with
    | nil => cases hr
    | cons o os =>
      simp only [resItems] at hr
      split at hr
      · cases hr
      · rename_i r hr1
        split at hr
        · cases hr
        · rename_i rs hr2
          simp only [lis, Option.some.injEq, List.cons.injEq] at hr
          obtain ⟨rfl, rfl⟩ := hr
          simp only [List.all_cons, Bool.and_eq_true] at hok
          obtain ⟨m1, E1, c1, ρ1, G1, p1, p2, p3, p4, p5⟩ := ItL_ok hs hE hok.1 (show ItL P x ρ G fun ρ' G' => OpsL P l ρ' G' K from h)
          obtain ⟨m2, E2, c2, ρ2, G2, q1, q2, q3, q4, q5⟩ := OpsL_ok hr2 hok.2 p2 p4 p5
          refine ⟨max m1 m2, E2, c2, ρ2, G2, ?_, q2, .trans hs p2 p3 q3, q4, q5⟩
          simp only [compOps]
          rw [compOper_res hr1, runRI_mono (callA_mono (Nat.le_max_left m1 m2)) p1]
          dsimp only
          exact compOps_mono (callA_mono (Nat.le_max_right m1 m2)) q1
end run
end Go.Sv
