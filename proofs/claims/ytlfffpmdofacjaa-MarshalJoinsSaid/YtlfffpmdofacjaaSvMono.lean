/- More fuel does no harm. -/
import Derived.Test.YtlfffpmdofacjaaSvFn
namespace Go.Sv

def CallT.le (k k' : CallT) : Prop := ∀ t a H v H', k t a H = .ok v H' → k' t a H = .ok v H'

theorem compOper_mono {P : Program} {n : Nat} {ops : Array Oper} {o : Oper} {k k' : CallT} (hk : k.le k') {E E' : Tr AV} {H H' : Heap} (h : (compOper P n ops o).run k E H = .ok E' H') : (compOper P n ops o).run k' E H = .ok E' H' := by
  unfold compOper at h ⊢
  cases hp : putF n o.dst with
  | none => rw [hp] at h; cases h
  | some p =>
    rw [hp] at h
    dsimp only at h ⊢
    cases hg : (guardF ops o).run E with
    | false => rw [hg] at h; exact h
    | true =>
      rw [hg] at h
      dsimp only at h ⊢
      cases hr : (compOp P o.op).run E H with
      | no => rw [hr] at h; cases h
      | val v H2 => rw [hr] at h; exact h
      | call t args =>
        rw [hr] at h
        dsimp only at h ⊢
        cases hc : k t args H with
        | no => rw [hc] at h; cases h
        | ok v H2 => rw [hc] at h; rw [hk _ _ _ _ _ hc]; exact h
theorem OE_rec_ok' {r : OE} {f : Tr AV → Heap → OE} {E' : Tr AV} {H' : Heap} (h : (OE.rec .no f r : OE) = .ok E' H') : ∃ E1 H1, r = .ok E1 H1 ∧ f E1 H1 = .ok E' H' := by
  cases r with
  | no => cases h
  | ok E1 H1 => exact ⟨E1, H1, rfl, h⟩
theorem compOps_mono {P : Program} {n : Nat} {ops : Array Oper} {k k' : CallT} (hk : k.le k') : ∀ {l : List Oper} {E E' : Tr AV} {H H' : Heap}, (compOps P n ops l).run k E H = .ok E' H' → (compOps P n ops l).run k' E H = .ok E' H'
  | [], _, _, _, _, h => h
  | o :: l, E, E', H, H', h => by
    simp only [compOps] at h ⊢
    obtain ⟨E1, H1, h1, h2⟩ := OE_rec_ok' h
    rw [compOper_mono hk h1]
    exact compOps_mono hk h2
theorem drawGo_mono {P : Program} {n : Nat} {ops : Array Oper} {k k' : CallT} (hk : k.le k') : ∀ {l pend : List DOp} {E E' : Tr AV} {H H' : Heap}, (drawGo P n ops l pend).run k E H = .ok E' H' → (drawGo P n ops l pend).run k' E H = .ok E' H'
  | [], _, _, _, _, _, h => h
  | x :: l, pend, E, E', H, H', h => by
    simp only [drawGo] at h ⊢
    split at h
    · rename_i hc
      obtain ⟨E1, H1, h1, h2⟩ := OE_rec_ok' h
      dsimp only
      rw [compOper_mono hk h1]
      exact drawGo_mono hk h2
    · rename_i hc
      obtain ⟨E1, H1, h1, h2⟩ := OE_rec_ok' h
      dsimp only
      rw [compOper_mono hk h1]
      exact drawGo_mono hk h2
    · rename_i hc
      obtain ⟨E1, H1, h1, h2⟩ := OE_rec_ok' h
      obtain ⟨h3, h4⟩ := Bool_rec_ok h2
      dsimp only
      rw [compOper_mono hk h1]
      dsimp only
      rw [h3]
      exact drawGo_mono hk h4
    · rename_i hc
      obtain ⟨E1, H1, h1, h2⟩ := OE_rec_ok' h
      obtain ⟨h3, h4⟩ := Bool_rec_ok h2
      dsimp only
      rw [compOper_mono hk h1]
      dsimp only
      rw [h3]
      exact drawGo_mono hk h4
theorem compDraw_mono {P : Program} {n : Nat} {ops : Array Oper} {k k' : CallT} (hk : k.le k') {E E' : Tr AV} {H H' : Heap} (h : (compDraw P n ops).run k E H = .ok E' H') : (compDraw P n ops).run k' E H = .ok E' H' := by
  unfold compDraw at h ⊢
  dsimp only at h ⊢
  split at h
  · exact drawGo_mono hk h
  · cases h

theorem loopA_mono {f g : Tr AV → List Nat → Heap → Res} (hf : ∀ E D H x E' D' H', f E D H = .ok x E' D' H' → g E D H = .ok x E' D' H') : ∀ {m m' : Nat}, m ≤ m' → ∀ {E D H x E' D' H'}, loopA f m E D H = .ok x E' D' H' → loopA g m' E D H = .ok x E' D' H'
  | 0, _, _, _, _, _, _, _, _, _, h => by cases h
  | m + 1, 0, hm, _, _, _, _, _, _, _, _ => by omega
  | m + 1, m' + 1, hm, E, D, H, x, E', D', H', h => by
    simp only [loopA] at h ⊢
    split at h
    · cases h
    · rename_i y E1 D1 H1 h1
      rw [hf _ _ _ _ _ _ _ h1]
      dsimp only
      split at h
      · exact loopA_mono hf (by omega) h
      · exact h

theorem compCode_mono {P : Program} {f n : Nat} {k k' : CallT} (hk : k.le k') {m m' : Nat} (hm : m ≤ m') {ro : Option Nat} : ∀ (c : Code) {E : Tr AV} {D : List Nat} {H : Heap} {x : Ex} {E' : Tr AV} {D' : List Nat} {H' : Heap},
    (compCode P f n c).run k m ro E D H = .ok x E' D' H' → (compCode P f n c).run k' m' ro E D H = .ok x E' D' H' := by
  intro c
  induction c with
  | skip => intro E D H x E' D' H' h; exact h
  | region id ops draw =>
    intro E D H x E' D' H' h
    simp only [compCode] at h ⊢
    cases draw with
    | true =>
      dsimp only at h ⊢
      split at h
      · cases h
      · rename_i E1 H1 h1; rw [compDraw_mono hk h1]; exact h
    | false =>
      dsimp only at h ⊢
      split at h
      · cases h
      · rename_i E1 H1 h1; rw [compOps_mono hk h1]; exact h
  | seq a b iha ihb =>
    intro E D H x E' D' H' h
    simp only [compCode] at h ⊢
    cases hr : (compCode P f n a).run k m ro E D H with
    | no => rw [hr] at h; cases h
    | ok y E1 D1 H1 =>
      rw [hr] at h
      rw [iha hr]
      dsimp only at h ⊢
      cases y with
      | normal => exact ihb h
      | exit id => exact h
      | ret => exact h
  | cond c a b iha ihb =>
    intro E D H x E' D' H' h
    simp only [compCode] at h ⊢
    split at h
    · split at h
      · exact iha h
      · exact ihb h
    · cases h
  | block id c ih =>
    intro E D H x E' D' H' h
    simp only [compCode] at h ⊢
    split at h
    · cases h
    · rename_i y E1 D1 H1 h1; rw [ih h1]; exact h
  | loop c ih =>
    intro E D H x E' D' H' h
    simp only [compCode] at h ⊢
    exact loopA_mono (fun E D H x E' D' H' h => ih h) hm h
  | rangeFunc g ps a b _ _ =>
    intro E D H x E' D' H' h
    simp only [compCode] at h ⊢
    split at h
    · cases h
    · split at h
      · cases h
      · split at h
        · split at h
          · cases h
          · rename_i v H2 h1
            rw [hk _ _ _ _ _ h1]
            exact h
        · cases h
  | exit id => intro E D H x E' D' H' h; exact h
  | scope c ih => intro E D H x E' D' H' h; exact ih h
  | label l => intro E D H x E' D' H' h; exact h
  | ret => intro E D H x E' D' H' h; exact h
  | _ => intro E D H x E' D' H' h; cases h

theorem compFn_mono {P : Program} {f : Nat} {k k' : CallT} (hk : k.le k') {m m' : Nat} (hm : m ≤ m') {args : List AV} {H : Heap} {v : AV} {H' : Heap} (h : (compFn P f).run k m args H = .ok v H') : (compFn P f).run k' m' args H = .ok v H' := by
  unfold compFn at h ⊢
  cases hf : P.funcs[f]? with
  | none => rw [hf] at h; cases h
  | some fn =>
    rw [hf] at h
    dsimp only at h ⊢
    cases hb : fn.body with
    | none => rw [hb] at h; cases h
    | some body =>
      rw [hb] at h
      dsimp only at h ⊢
      by_cases hl : fn.ntmps ≤ lim
      · rw [if_pos hl] at h ⊢
        dsimp only at h ⊢
        cases ha : Nat.ble args.length fn.ntmps with
        | false => rw [ha] at h; cases h
        | true =>
          rw [ha] at h
          dsimp only at h ⊢
          cases hr : (compCode P f fn.ntmps body).run k m none (ofListFrom args 0 .e) [] H with
          | no => rw [hr] at h; cases h
          | ok x E D H1 => rw [hr] at h; rw [compCode_mono hk hm _ hr]; exact h
      · rw [if_neg hl] at h; cases h
theorem callA_mono {P : Program} {O : CallT} : ∀ {m m' : Nat}, m ≤ m' → CallT.le (callA P O m) (callA P O m')
  | 0, _, _ => fun t a H v H' h => by cases h
  | m + 1, 0, h => by omega
  | m + 1, m' + 1, hm => by
    have ih := callA_mono (P := P) (O := O) (show m ≤ m' by omega)
    intro t a H v H' h
    unfold callA at h ⊢
    cases t with
    | fn f =>
      dsimp only at h ⊢
      cases ho : O (.fn f) a H with
      | no => rw [ho] at h; exact compFn_mono ih (by omega) h
      | ok v1 H1 => rw [ho] at h; exact h
    | yield l =>
      dsimp only at h ⊢
      split at h
      · rename_i f n E ps a' b d hg
        cases hE : setPs ps.toList a n E with
        | none => rw [hE] at h; cases h
        | some E1 =>
          rw [hE] at h
          dsimp only at h ⊢
          split at h
          · rename_i E2 H2 h2
            rw [compCode_mono ih (by omega) _ h2]
            dsimp only
            cases hb : beginA l H2 with
            | none => rw [hb] at h; cases h
            | some H2' =>
              rw [hb] at h
              dsimp only at h ⊢
              cases h3 : (compCode P f n b).run (callA P O m) m (some l) E2 [] H2' with
              | no => rw [h3] at h; cases h
              | ok x E3 D H3 => rw [h3] at h; rw [compCode_mono ih (by omega) _ h3]; exact h
          · cases h
      · cases h
end Go.Sv
