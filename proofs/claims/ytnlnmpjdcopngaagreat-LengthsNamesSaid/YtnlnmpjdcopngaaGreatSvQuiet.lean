/- What the classes of operations say: the quiet look at no object, those that read change none. -/
import Derived.Test.YtnlnmpjdcopngaaGreatSvCong
namespace Go.Sv

/-- Two outcomes, at two heaps: the same, and neither heap is turned. -/
inductive QR (H H2 : Heap) : OR → OR → Prop where
  | no : QR H H2 .no .no
  | val (v : AV) : QR H H2 (.val v H) (.val v H2)
def Quiet (F : OpF) : Prop := ∀ E H H2, QR H H2 (F.run E H) (F.run E H2)
/-- An outcome that turns no heap. -/
inductive RR (H : Heap) : OR → Prop where
  | no : RR H .no
  | val (v : AV) : RR H (.val v H)
def Reads (F : OpF) : Prop := ∀ E H, RR H (F.run E H)
theorem Quiet.reads {F : OpF} (h : Quiet F) : Reads F := fun E H => by
  have := h E H H
  generalize F.run E H = r at this
  cases this with
  | no => exact .no
  | val v => exact .val v

theorem quiet_stuck : Quiet stuckF := fun _ _ _ => .no
theorem reads_stuck : Reads stuckF := fun _ _ => .no
theorem QR.ret1 {H H2 : Heap} (o : Option AV) : QR H H2 (ret1 H o) (Sv.ret1 H2 o) := by cases o <;> constructor
theorem RR.ret1 {H : Heap} (o : Option AV) : RR H (Sv.ret1 H o) := by cases o <;> constructor
theorem quiet_unary {x : Operand} {f : Heap → AV → OR} (h : ∀ a H H2, QR H H2 (f H a) (f H2 a)) : Quiet (unary1 x f) := fun E H H2 => by
  simp only [unary1]
  cases (opd x).run E with
  | none => exact .no
  | some a => exact h a H H2
theorem quiet_binary {x y : Operand} {f : Heap → AV → AV → OR} (h : ∀ a b H H2, QR H H2 (f H a b) (f H2 a b)) : Quiet (binary2 x y f) := fun E H H2 => by
  simp only [binary2]
  cases (opd x).run E with
  | none => exact .no
  | some a =>
    cases (opd y).run E with
    | none => exact .no
    | some b => exact h a b H H2
theorem reads_unary {x : Operand} {f : Heap → AV → OR} (h : ∀ a H, RR H (f H a)) : Reads (unary1 x f) := fun E H => by
  simp only [unary1]
  cases (opd x).run E with
  | none => exact .no
  | some a => exact h a H
theorem reads_binary {x y : Operand} {f : Heap → AV → AV → OR} (h : ∀ a b H, RR H (f H a b)) : Reads (binary2 x y f) := fun E H => by
  simp only [binary2]
  cases (opd x).run E with
  | none => exact .no
  | some a =>
    cases (opd y).run E with
    | none => exact .no
    | some b => exact h a b H

theorem quiet_build (P : Program) (t : TypeId) (parts : Array (Nat × Operand)) : Quiet (buildF P t parts) := by
  unfold buildF
  split
  · exact quiet_stuck
  · split
    · split
      · exact quiet_stuck
      · split
        · exact quiet_stuck
        · intro E H H2
          dsimp only
          split
          · exact .val _
          · exact .no
    · split
      · exact quiet_stuck
      · split
        · exact quiet_stuck
        · intro E H H2
          dsimp only
          split
          · exact .val _
          · exact .no
    · exact quiet_stuck
theorem quiet_nilCheck (H H2 : Heap) (a : AV) : QR H H2 (nilCheckA H a) (nilCheckA H2 a) := by
  unfold nilCheckA
  split <;> constructor
theorem quiet_mkIface (P : Program) (t : TypeId) (x : Operand) : Quiet (mkIfaceF P t x) := by
  unfold mkIfaceF
  split
  · exact quiet_stuck
  · exact quiet_unary fun a H H2 => .val _
  · exact quiet_stuck
theorem quiet_mkFunc (f : Fn) (x y : Array Operand) : Quiet (mkFuncF f x y) := fun E H H2 => by
  simp only [mkFuncF]
  split
  · split <;> constructor
  · exact .no
theorem quiet_fieldAddr (P : Program) (s : TypeId) (x : Operand) (f : Nat) : Quiet (fieldAddrF P s x f) := by
  unfold fieldAddrF
  split
  · split
    · exact quiet_stuck
    · split
      · exact quiet_stuck
      · exact quiet_stuck
      · exact quiet_unary fun a H H2 => by split <;> constructor
  · exact quiet_stuck
theorem quiet_field (P : Program) (s : TypeId) (x : Operand) (f : Nat) : Quiet (fieldF P s x f) := by
  unfold fieldF
  split
  · split
    · exact quiet_stuck
    · split
      · exact quiet_unary fun a H H2 => by
          split
          · exact .ret1 _
          · exact .no
      · exact quiet_stuck
  · exact quiet_stuck
theorem quiet_indexAddr (P : Program) (t : TypeId) (x ix : Operand) : Quiet (indexAddrF P t x ix) := by
  unfold indexAddrF
  split
  · split
    · exact quiet_stuck
    · refine quiet_binary fun a b H H2 => ?_
      split
      · rename_i len esz _ _ n
        cases Nat.blt n len
        · exact .no
        · dsimp only
          split <;> constructor
      · exact .no
  · split
    · exact quiet_stuck
    · refine quiet_binary fun a b H H2 => ?_
      split
      · split <;> constructor
      · exact .no
  · exact quiet_stuck
theorem quiet_index (P : Program) (t : TypeId) (x ix : Operand) : Quiet (indexF P t x ix) := by
  unfold indexF
  split
  · refine quiet_binary fun a b H H2 => ?_
    split
    · split <;> constructor
    · exact .no
  · split
    · refine quiet_binary fun a b H H2 => ?_
      split
      · split
        · exact .ret1 _
        · exact .no
      · exact .no
    · exact quiet_stuck
  · exact quiet_stuck
theorem quiet_assert (P : Program) (x : Operand) (t : TypeId) (ok : Bool) : Quiet (assertF P x t ok) := by
  unfold assertF
  split
  · exact quiet_stuck
  · split
    · exact quiet_stuck
    · refine quiet_unary fun a H H2 => ?_
      split
      · cases ok <;> constructor
      · split
        · constructor
        · cases ok <;> constructor
      · exact .no
  · exact quiet_stuck
theorem quiet_extract (x : Operand) (i : Nat) : Quiet (extractF x i) := quiet_unary fun a H H2 => by
  split
  · exact .ret1 _
  · exact .no
theorem quiet_slice {P : Program} {t : TypeId} {x : Operand} {lo hi mx : Option Operand} (h : isArrT P t = false) : Quiet (sliceF P t x lo hi mx) := by
  unfold sliceF
  split
  · split
    · exact quiet_stuck
    · intro E H H2
      dsimp only
      split
      · split
        · split <;> constructor
        · exact .no
      · exact .no
  · split
    · exact quiet_stuck
    · split
      · exact quiet_stuck
      · intro E H H2
        dsimp only
        split
        · exact .ret1 _
        · split <;> constructor
        · split <;> constructor
        · exact .no
  · rename_i q
    simp [isArrT, q] at h
  · exact quiet_stuck
theorem reads_slice (P : Program) (t : TypeId) (x : Operand) (lo hi mx : Option Operand) : Reads (sliceF P t x lo hi mx) := by
  cases hq : isArrT P t
  · exact (quiet_slice hq).reads
  · unfold isArrT at hq
    unfold sliceF
    split at hq
    · rename_i q
      rw [q]
      dsimp only
      split
      · exact reads_stuck
      · split
        · exact reads_stuck
        · intro E H
          dsimp only
          split
          · split
            · split
              · split
                · exact .ret1 _
                · exact .no
              · exact .no
            · exact .no
          · exact .no
    · cases hq
theorem quiet_conv {P : Program} {s d : TypeId} {x : Operand} (hd : isSlT P d = false) (hs : isSlT P s = false) : Quiet (convF P s d x) := by
  unfold convF
  split
  · exact quiet_unary fun a H H2 => by split <;> constructor
  · rename_i q _; simp [isSlT, q] at hs
  · exact quiet_unary fun a H H2 => by split <;> constructor
  · rename_i q; simp [isSlT, q] at hd
  · exact quiet_stuck
theorem reads_conv {P : Program} {s d : TypeId} {x : Operand} (hd : isSlT P d = false) : Reads (convF P s d x) := by
  unfold convF
  split
  · exact reads_unary fun a H => by split <;> constructor
  · split
    · refine reads_unary fun a H => ?_
      split
      · exact .val _
      · split
        · split <;> constructor
        · exact .no
      · exact .no
    · exact reads_stuck
  · exact reads_unary fun a H => by split <;> constructor
  · rename_i q; simp [isSlT, q] at hd
  · exact reads_stuck
theorem reads_load (P : Program) (t : TypeId) (x : Operand) : Reads (loadF P t x) := by
  unfold loadF
  split
  · exact reads_unary fun a H => by
      split
      · split <;> constructor
      · exact .no
  · exact reads_unary fun a H => by
      split
      · split <;> constructor
      · exact .no
  · exact reads_stuck
theorem reads_lookup (P : Program) (t : TypeId) (x ix : Operand) (ok : Bool) : Reads (lookupF P t x ix ok) := by
  unfold lookupF
  split
  · split
    · refine reads_binary fun a b H => ?_
      split
      · exact .no
      · split <;> constructor
    · exact reads_stuck
  · exact reads_stuck
theorem quiet_len {P : Program} {t : TypeId} {x : Operand} (h : isMapT P t = false) : Quiet (lenF P t x) := by
  unfold lenF
  split
  · exact quiet_unary fun a H H2 => by split <;> constructor
  · exact quiet_unary fun a H H2 => by split <;> constructor
  · rename_i q; simp [isMapT, q] at h
  · exact quiet_unary fun a H H2 => .val _
  · exact quiet_stuck
theorem reads_len (P : Program) (t : TypeId) (x : Operand) : Reads (lenF P t x) := by
  cases hq : isMapT P t
  · exact (quiet_len hq).reads
  · unfold isMapT at hq
    unfold lenF
    split at hq
    · rename_i q
      rw [q]
      refine reads_unary fun a H => ?_
      split
      · exact .val _
      · split <;> constructor
      · exact .no
    · cases hq
theorem quiet_cap (P : Program) (t : TypeId) (x : Operand) : Quiet (capF P t x) := by
  unfold capF
  split
  · exact quiet_unary fun a H H2 => by split <;> constructor
  · exact quiet_stuck
theorem quiet_max (mx : Bool) (l : List Operand) : Quiet (maxF mx l) := fun E H H2 => by
  simp only [maxF]
  split
  · exact .ret1 _
  · exact .no

theorem clsCall_spec {P : Program} {c : Call} : (clsCall P c = .quiet → Quiet (callF P c)) ∧ (clsCall P c = .rd → Reads (callF P c)) := by
  unfold clsCall callF
  split
  · rename_i q
    rw [q]
    dsimp only
    split
    · rename_i t ht
      rw [ht]
      split
      · rename_i hm
        exact ⟨fun h => (by cases h), fun _ => by
          split
          · exact reads_len _ _ _
          · exact reads_stuck⟩
      · rename_i hm
        refine ⟨fun _ => ?_, fun h => by cases h⟩
        split
        · rename_i e _ ; cases e; exact quiet_len (by simpa using hm)
        · exact quiet_stuck
    · exact ⟨fun h => (by cases h), fun h => by cases h⟩
  · rename_i q
    rw [q]
    refine ⟨fun _ => ?_, fun h => by cases h⟩
    dsimp only
    split
    · exact quiet_cap _ _ _
    · exact quiet_stuck
  · rename_i q
    rw [q]
    exact ⟨fun _ => quiet_max _ _, fun h => by cases h⟩
  · rename_i q
    rw [q]
    exact ⟨fun _ => quiet_max _ _, fun h => by cases h⟩
  · exact ⟨fun h => (by cases h), fun h => by cases h⟩

theorem cls_spec {P : Program} {o : Op} : (cls P o = .quiet → Quiet (compOp P o)) ∧ (cls P o = .rd → Reads (compOp P o)) := by
  unfold cls
  split
  · exact ⟨fun _ => quiet_unary fun a H H2 => .val _, fun h => by cases h⟩
  · exact ⟨fun _ => quiet_unary fun a H H2 => .val _, fun h => by cases h⟩
  · refine ⟨fun _ E H H2 => ?_, fun h => by cases h⟩
    simp only [compOp]
    split
    · exact .ret1 _
    · exact .ret1 _
    · exact .no
  · exact ⟨fun _ => quiet_build _ _ _, fun h => by cases h⟩
  · exact ⟨fun _ => quiet_unary fun a H H2 => quiet_nilCheck _ _ _, fun h => by cases h⟩
  · exact ⟨fun _ => quiet_binary fun a b H H2 => .ret1 _, fun h => by cases h⟩
  · exact ⟨fun _ => quiet_unary fun a H H2 => .ret1 _, fun h => by cases h⟩
  · exact ⟨fun _ => quiet_mkIface _ _ _, fun h => by cases h⟩
  · rename_i f x y
    refine ⟨fun _ => ?_, fun h => by cases h⟩
    simp only [compOp]
    split
    · exact quiet_stuck
    · exact quiet_mkFunc _ _ _
  · exact ⟨fun _ => quiet_fieldAddr _ _ _ _, fun h => by cases h⟩
  · exact ⟨fun _ => quiet_field _ _ _ _, fun h => by cases h⟩
  · exact ⟨fun _ => quiet_indexAddr _ _ _ _, fun h => by cases h⟩
  · exact ⟨fun _ => quiet_index _ _ _ _, fun h => by cases h⟩
  · exact ⟨fun _ => quiet_assert _ _ _ _, fun h => by cases h⟩
  · exact ⟨fun _ => quiet_extract _ _, fun h => by cases h⟩
  · split
    · exact ⟨fun h => (by cases h), fun _ => reads_slice _ _ _ _ _ _⟩
    · rename_i h
      exact ⟨fun _ => quiet_slice (by simpa using h), fun h => by cases h⟩
  · split
    · exact ⟨fun h => (by cases h), fun h => by cases h⟩
    · rename_i hd
      split
      · exact ⟨fun h => (by cases h), fun _ => reads_conv (by simpa using hd)⟩
      · rename_i hs
        exact ⟨fun _ => quiet_conv (by simpa using hd) (by simpa using hs), fun h => by cases h⟩
  · exact ⟨fun h => (by cases h), fun _ => reads_load _ _ _⟩
  · exact ⟨fun h => (by cases h), fun _ => reads_lookup _ _ _ _ _⟩
  · exact clsCall_spec
  all_goals exact ⟨fun h => (by cases h), fun h => by cases h⟩

/-! ### One operation of a region's -/
theorem compOper_shape {P : Program} {n : Nat} {ops : Array Oper} {o : Oper} {k : CallT} {E E1 : Tr AV} {H H1 : Heap} (h : (compOper P n ops o).run k E H = .ok E1 H1) :
    ∃ v, E1 = putE o.dst v E ∧ (∀ d, o.dst = some d → d < n) ∧ ∀ E', Same (looks ops o) E' E → (compOper P n ops o).run k E' H = .ok (putE o.dst v E') H1 := by
  unfold compOper at h ⊢
  cases hp : putF n o.dst with
  | none => rw [hp] at h; cases h
  | some p =>
    rw [hp] at h
    dsimp only at h ⊢
    obtain ⟨hput, hlt⟩ := putF_spec hp
    have hcg : ∀ E', Same (looks ops o) E' E → (compOp P o.op).run E' H = (compOp P o.op).run E H := fun E' hs =>
      compOp_cong (Same.opds (fun t ht => hs t (by simp [looks, ht])))
    cases hg : (guardF ops o).run E with
    | false =>
      rw [hg] at h
      cases h
      refine ⟨undefA, hput _ _, hlt, fun E' hs => ?_⟩
      rw [guardF_cong hs, hg]
      dsimp only
      rw [hput]
    | true =>
      rw [hg] at h
      dsimp only at h
      cases hr : (compOp P o.op).run E H with
      | no => rw [hr] at h; cases h
      | val v H2 =>
        rw [hr] at h
        cases h
        refine ⟨v, hput _ _, hlt, fun E' hs => ?_⟩
        rw [guardF_cong hs, hg, hcg E' hs, hr]
        dsimp only
        rw [hput]
      | call t args =>
        rw [hr] at h
        dsimp only at h
        cases hc : k t args H with
        | no => rw [hc] at h; cases h
        | ok v H2 =>
          rw [hc] at h
          cases h
          refine ⟨v, hput _ _, hlt, fun E' hs => ?_⟩
          rw [guardF_cong hs, hg, hcg E' hs, hr]
          dsimp only
          rw [hc]
          dsimp only
          rw [hput]

theorem compOper_reads {P : Program} {n : Nat} {ops : Array Oper} {o : Oper} {k : CallT} {E E1 : Tr AV} {H H1 : Heap} (hq : Reads (compOp P o.op)) (h : (compOper P n ops o).run k E H = .ok E1 H1) : H1 = H := by
  unfold compOper at h
  cases hp : putF n o.dst with
  | none => rw [hp] at h; cases h
  | some p =>
    rw [hp] at h
    dsimp only at h
    cases hg : (guardF ops o).run E with
    | false => rw [hg] at h; cases h; rfl
    | true =>
      rw [hg] at h
      dsimp only at h
      have hr := hq E H
      generalize (compOp P o.op).run E H = r at h hr
      cases hr with
      | no => cases h
      | val v => cases h; rfl
theorem compOper_quiet {P : Program} {n : Nat} {ops : Array Oper} {o : Oper} {k : CallT} {E E1 : Tr AV} {H H1 : Heap} (hq : Quiet (compOp P o.op)) (h : (compOper P n ops o).run k E H = .ok E1 H1) (H2 : Heap) :
    (compOper P n ops o).run k E H2 = .ok E1 H2 := by
  unfold compOper at h ⊢
  cases hp : putF n o.dst with
  | none => rw [hp] at h; cases h
  | some p =>
    rw [hp] at h
    dsimp only at h ⊢
    cases hg : (guardF ops o).run E with
    | false => rw [hg] at h; cases h; rfl
    | true =>
      rw [hg] at h
      dsimp only at h ⊢
      have hr := hq E H H2
      generalize (compOp P o.op).run E H = r at h hr
      generalize (compOp P o.op).run E H2 = r2 at hr ⊢
      cases hr with
      | no => cases h
      | val v => cases h; rfl

end Go.Sv
