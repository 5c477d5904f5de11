/- What an operation's outcome leans on: the temporaries that it names; and for some, no object at all. -/
import Derived.Test.YtnlnmpjdcopngaaGreatSvRun
namespace Go.Sv

/-- Two rows of temporaries that agree where it is asked. -/
def Same (ts : List Nat) (E' E : Tr AV) : Prop := ∀ t ∈ ts, t ≤ lim → getP (pathOf t) E' = getP (pathOf t) E

theorem opd_cong {x : Operand} {E E' : Tr AV} (h : Same (tmpsOf [x]) E' E) : (opd x).run E' = (opd x).run E := by
  cases x with
  | tmp t =>
    unfold opd
    dsimp only
    split
    · rename_i hle
      dsimp only
      rw [h t (by simp [tmpsOf]) (Nat.le_of_ble_eq_true hle)]
    · rfl
  | const v => unfold opd; dsimp only; split <;> rfl
  | func f => rfl
  | global g => rfl

theorem Same.opds : ∀ {l : List Operand} {E E' : Tr AV}, Same (tmpsOf l) E' E → ∀ x ∈ l, (opd x).run E' = (opd x).run E
  | [], _, _, _, x, hx => by cases hx
  | y :: l, E, E', h, x, hx => by
    rcases List.mem_cons.1 hx with rfl | hx
    · refine opd_cong (fun t ht => h t ?_)
      cases x <;> simp_all [tmpsOf]
    · refine Same.opds (l := l) (fun t ht => h t ?_) x hx
      cases y <;> simp_all [tmpsOf]

section cong
variable {E E' : Tr AV} {H : Heap}
theorem opds_cong : ∀ {l : List Operand}, (∀ x ∈ l, (opd x).run E' = (opd x).run E) → (opds l).run E' = (opds l).run E
  | [], _ => rfl
  | x :: l, h => by
    simp only [opds]
    rw [h x (by simp), opds_cong (fun y hy => h y (by simp [hy]))]
theorem unary1_cong {x : Operand} {f : Heap → AV → OR} (h : (opd x).run E' = (opd x).run E) : (unary1 x f).run E' H = (unary1 x f).run E H := by
  simp only [unary1]; rw [h]
theorem binary2_cong {x y : Operand} {f : Heap → AV → AV → OR} (h : (opd x).run E' = (opd x).run E) (k : (opd y).run E' = (opd y).run E) : (binary2 x y f).run E' H = (binary2 x y f).run E H := by
  simp only [binary2]; rw [h, k]
theorem optF_cong {x : Option Operand} (h : ∀ y, x = some y → (opd y).run E' = (opd y).run E) : (optF x).run E' = (optF x).run E := by
  cases x with
  | none => rfl
  | some y => simp only [optF]; rw [h y rfl]
theorem fillA_cong : ∀ {ps : List Part} {cs : List AV}, (∀ p ∈ ps, p.v.run E' = p.v.run E) → fillA cs ps E' = fillA cs ps E
  | [], _, _ => rfl
  | p :: ps, cs, h => by
    simp only [fillA]
    rw [h p (by simp)]
    split
    · rfl
    · split
      · rfl
      · split
        · split
          · exact fillA_cong (fun q hq => h q (by simp [hq]))
          · rfl
        · rfl
theorem partsAt_cong {place : Nat → Option (Nat × Nat)} : ∀ {l : List (Nat × Operand)} {ps : List Part}, partsAt place l = some ps → (∀ x ∈ l.map (·.2), (opd x).run E' = (opd x).run E) → ∀ p ∈ ps, p.v.run E' = p.v.run E
  | [], ps, h, _, p, hp => by cases h; cases hp
  | (i, x) :: l, ps, h, hx, p, hp => by
    simp only [partsAt] at h
    split at h
    · cases h
    · split at h
      · cases h
      · rename_i r hr
        cases h
        rcases List.mem_cons.1 hp with rfl | hp
        · exact hx x (by simp)
        · exact partsAt_cong hr (fun y hy => hx y (by simp at hy ⊢; exact .inr hy)) p hp
end cong

theorem callF_cong {P : Program} {c : Call} {E E' : Tr AV} {H : Heap} (h : ∀ x ∈ c.operands.toList, (opd x).run E' = (opd x).run E) : (callF P c).run E' H = (callF P c).run E H := by
  have ha : ∀ x ∈ c.args.toList, (opd x).run E' = (opd x).run E := fun x hx => h x (by simp [Call.operands] at hx ⊢; exact .inr hx)
  unfold callF
  split
  · split
    · split
      · rename_i q; rw [q] at ha; unfold lenF; split <;> first | rfl | exact unary1_cong (ha _ (by simp))
      · rfl
    · split
      · rename_i q; rw [q] at ha; unfold capF; split <;> first | rfl | exact unary1_cong (ha _ (by simp))
      · rfl
    · simp only [maxF]; rw [opds_cong ha]
    · simp only [maxF]; rw [opds_cong ha]
    · unfold appendF
      split
      · rename_i q; rw [q] at ha
        split
        · unfold appendZ; split
          · split
            · exact binary2_cong (ha _ (by simp)) (ha _ (by simp))
            · rfl
          · rfl
        · unfold appendG; split
          · split
            · exact binary2_cong (ha _ (by simp)) (ha _ (by simp))
            · rfl
          · rfl
        · unfold appendG; split
          · split
            · exact binary2_cong (ha _ (by simp)) (ha _ (by simp))
            · rfl
          · rfl
        · rfl
      · rfl
    · unfold copyF
      split
      · rename_i q; rw [q] at ha
        split
        · split
          · rfl
          · split
            · exact binary2_cong (ha _ (by simp)) (ha _ (by simp))
            · rfl
        · rfl
      · rfl
    · unfold clearF
      split
      · rename_i q; rw [q] at ha
        split
        · split
          · split
            · exact unary1_cong (ha _ (by simp))
            · rfl
          · rfl
        · rfl
      · rfl
    · unfold deleteF
      split
      · rename_i q; rw [q] at ha
        split
        · split
          · exact binary2_cong (ha _ (by simp)) (ha _ (by simp))
          · rfl
        · rfl
      · rfl
    · rfl
  · rename_i f q
    have hf : (opd f).run E' = (opd f).run E := h f (by simp [Call.operands, q])
    dsimp only
    rw [hf, opds_cong ha]
  · rename_i r nm q
    have hf : (opd r).run E' = (opd r).run E := h r (by simp [Call.operands, q])
    dsimp only
    rw [hf, opds_cong ha]

theorem compOp_cong {P : Program} {o : Op} {E E' : Tr AV} {H : Heap} (h : ∀ x ∈ o.operands.toList, (opd x).run E' = (opd x).run E) : (compOp P o).run E' H = (compOp P o).run E H := by
  unfold compOp
  split
  · exact unary1_cong (h _ (by simp [Op.operands]))
  · exact unary1_cong (h _ (by simp [Op.operands]))
  · rename_i c a b
    dsimp only
    rw [h c (by simp [Op.operands]), h a (by simp [Op.operands]), h b (by simp [Op.operands])]
  · split <;> rfl
  · exact unary1_cong (h _ (by simp [Op.operands]))
  · rename_i t parts
    have hp : ∀ x ∈ parts.toList.map (·.2), (opd x).run E' = (opd x).run E := fun x hx => h x (by simpa [Op.operands] using hx)
    unfold buildF
    split
    · rfl
    · split
      · split
        · rfl
        · split
          · rfl
          · rename_i q; dsimp only; rw [fillA_cong (partsAt_cong q hp)]
      · split
        · rfl
        · split
          · rfl
          · rename_i q; dsimp only; rw [fillA_cong (partsAt_cong q hp)]
      · rfl
  · rename_i t len parts
    have hp : ∀ x ∈ parts.toList.map (·.2), (opd x).run E' = (opd x).run E := fun x hx => h x (by simpa [Op.operands] using hx)
    unfold buildSliceF
    split
    · split
      · rfl
      · split
        · rfl
        · split
          · split
            · rfl
            · rename_i q; dsimp only; rw [fillA_cong (partsAt_cong q hp)]
          · rfl
    · rfl
  · unfold loadF; split <;> first | rfl | exact unary1_cong (h _ (by simp [Op.operands]))
  · unfold storeF; split <;> first | rfl | exact binary2_cong (h _ (by simp [Op.operands])) (h _ (by simp [Op.operands]))
  · exact unary1_cong (h _ (by simp [Op.operands]))
  · exact binary2_cong (h _ (by simp [Op.operands])) (h _ (by simp [Op.operands]))
  · exact unary1_cong (h _ (by simp [Op.operands]))
  · unfold convF
    split
    · exact unary1_cong (h _ (by simp [Op.operands]))
    · split <;> first | rfl | exact unary1_cong (h _ (by simp [Op.operands]))
    · exact unary1_cong (h _ (by simp [Op.operands]))
    · split <;> first | rfl | exact unary1_cong (h _ (by simp [Op.operands]))
    · rfl
  · unfold mkIfaceF; split <;> first | rfl | exact unary1_cong (h _ (by simp [Op.operands]))
  · rename_i f first cap
    split
    · rfl
    · simp only [mkFuncF]
      rw [opds_cong (l := first.toList) (fun x hx => h x (by simp [Op.operands] at hx ⊢; exact .inl hx)), opds_cong (l := cap.toList) (fun x hx => h x (by simp [Op.operands] at hx ⊢; exact .inr hx))]
  · unfold mkMapF
    split
    · rfl
    · split <;> first | rfl | exact unary1_cong (h _ (by simp [Op.operands]))
  · unfold mkSliceF
    split
    · split
      · rfl
      · split
        · rfl
        · split
          · exact binary2_cong (h _ (by simp [Op.operands])) (h _ (by simp [Op.operands]))
          · rfl
    · rfl
  · rename_i t x lo hi mx
    have h1 := h x (by simp [Op.operands])
    have h2 : (optF lo).run E' = (optF lo).run E := optF_cong (fun y e => h y (by simp [Op.operands, e]))
    have h3 : (optF hi).run E' = (optF hi).run E := optF_cong (fun y e => h y (by simp [Op.operands, e]))
    have h4 : (optF mx).run E' = (optF mx).run E := optF_cong (fun y e => h y (by simp [Op.operands, e]))
    unfold sliceF
    split
    · split
      · rfl
      · dsimp only; rw [h1, h2, h3]
    · split
      · rfl
      · split
        · rfl
        · dsimp only; rw [h1, h2, h3, h4]
    · split
      · rfl
      · split
        · rfl
        · dsimp only; rw [h1, h2, h3, h4]
    · rfl
  · unfold fieldAddrF
    split
    · split
      · rfl
      · split <;> first | rfl | exact unary1_cong (h _ (by simp [Op.operands]))
    · rfl
  · unfold fieldF
    split
    · split
      · rfl
      · split <;> first | rfl | exact unary1_cong (h _ (by simp [Op.operands]))
    · rfl
  · unfold indexAddrF
    split
    · split
      · rfl
      · exact binary2_cong (h _ (by simp [Op.operands])) (h _ (by simp [Op.operands]))
    · split
      · rfl
      · exact binary2_cong (h _ (by simp [Op.operands])) (h _ (by simp [Op.operands]))
    · rfl
  · unfold indexF
    split
    · exact binary2_cong (h _ (by simp [Op.operands])) (h _ (by simp [Op.operands]))
    · split
      · exact binary2_cong (h _ (by simp [Op.operands])) (h _ (by simp [Op.operands]))
      · rfl
    · rfl
  · unfold lookupF
    split
    · split
      · exact binary2_cong (h _ (by simp [Op.operands])) (h _ (by simp [Op.operands]))
      · rfl
    · rfl
  · rename_i t m k x
    unfold mapUpdateF
    split
    · split
      · dsimp only; rw [h m (by simp [Op.operands]), h k (by simp [Op.operands]), h x (by simp [Op.operands])]
      · rfl
    · rfl
  · rename_i t m k x
    unfold mapUpdateF
    split
    · split
      · dsimp only; rw [h m (by simp [Op.operands]), h k (by simp [Op.operands]), h x (by simp [Op.operands])]
      · rfl
    · rfl
  · unfold rangeF; split <;> first | rfl | exact unary1_cong (h _ (by simp [Op.operands]))
  · unfold nextF; split <;> first | rfl | exact unary1_cong (h _ (by simp [Op.operands]))
  · unfold assertF
    split
    · rfl
    · split
      · rfl
      · exact unary1_cong (h _ (by simp [Op.operands]))
    · rfl
  · exact unary1_cong (h _ (by simp [Op.operands]))
  · exact callF_cong (fun x hx => h x (by simpa [Op.operands] using hx))
  · rfl

theorem guardF_cong {ops : Array Oper} {o : Oper} {E E' : Tr AV} (h : Same (looks ops o) E' E) : (guardF ops o).run E' = (guardF ops o).run E := by
  unfold guardF
  split
  · rfl
  · rename_i j want hg
    split
    · rfl
    · rename_i d hd
      split
      · rename_i hle
        dsimp only
        rw [h d (by simp [looks, hg, hd]) hle]
      · rfl

end Go.Sv
