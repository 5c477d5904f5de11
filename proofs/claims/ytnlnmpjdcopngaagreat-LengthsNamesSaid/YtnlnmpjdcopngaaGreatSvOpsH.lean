/- Each operation of the evaluator's against the model's: indexes, conversions, assertions, ranges, lengths. -/
import Derived.Test.YtnlnmpjdcopngaaGreatSvOpsG
import Derived.Lib.ConvBytes
import Derived.Laws.BytesArg
namespace Go.Sv
open Go.RowKit (Below)

theorem indexAddr_sound (P : Program) (t : TypeId) (x ix : Operand) : Sound P (indexAddrF P t x ix) (fun ρ => do pure (.value (← Instr.indexAt t (ρ x) (ρ ix)))) := by
  unfold indexAddrF
  split
  · rename_i elem hu
    split
    · exact stuck_sound P _
    · rename_i size hs
      refine binary2_sound fun w0 C H w ρ a b hR ha hb => ?_
      split
      · rename_i o v i len esz room k n
        split
        · rename_i hn
          split
          · rename_i he
            have hn' : n < len := by rw [nblt] at hn; simpa using hn
            have he' : esz = size := Nat.eq_of_beq_eq_true he
            subst he'
            generalize ρ x = px at ha
            generalize ρ ix = pi at hb
            cases hb
            cases ha with
            | sl hL =>
              refine val_same hR (.ptr (i := i + n * esz) hL) ?_
              have h1 : (0 : Int) ≤ Int.ofNat n ∧ Int.ofNat n < (len : Int) := ⟨by simp, by simp; omega⟩
              simp only [Instr.indexAt, asIntOf, Sem.run_bind, Sem.run_pure, Result.andThen_ok, run_und hu, Sem.run_ite, if_pos h1, run_size hs]
              rw [add_addr]
              rfl
          · exact trivial
        · exact trivial
      · exact trivial
  · rename_i len elem hu
    split
    · exact stuck_sound P _
    · rename_i size hs
      refine binary2_sound fun w0 C H w ρ a b hR ha hb => ?_
      split
      · rename_i o v i k n
        split
        · rename_i hn
          have hn' : n < len := by rw [nblt] at hn; simpa using hn
          generalize ρ x = px at ha
          generalize ρ ix = pi at hb
          cases hb
          cases ha with
          | ptr hL =>
            refine val_same hR (.ptr (i := i + n * size) hL) ?_
            have h1 : (0 : Int) ≤ Int.ofNat n ∧ Int.ofNat n < (len : Int) := ⟨by simp, by simp; omega⟩
            simp only [Instr.indexAt, asIntOf, Instr.sureAddr, Sem.run_bind, Sem.run_pure, Result.andThen_ok, run_und hu, Sem.run_ite, if_pos h1, run_size hs]
            rw [add_addr]
            rfl
        · exact trivial
      · exact trivial
  · exact stuck_sound P _

theorem index_sound (P : Program) (t : TypeId) (x ix : Operand) : Sound P (indexF P t x ix) (fun ρ => do pure (.value (← Instr.index t (ρ x) (ρ ix)))) := by
  unfold indexF
  split
  · rename_i hu
    refine binary2_sound fun w0 C H w ρ a b hR ha hb => ?_
    split
    · rename_i len n k i
      split
      · rename_i hn
        have hn' : i < len := by rw [nblt] at hn; simpa using hn
        generalize ρ x = px at ha
        generalize ρ ix = pi at hb
        cases hb
        cases ha with
        | @str _ _ s h1 h2 =>
          subst h1 h2
          have hi : i < s.size := hn'
          have hg : s.data.toList[i]? = some s[i] := by
            rw [List.getElem?_eq_getElem (by simpa using hn')]; rfl
          have hp := packL_get hg
          refine val_same hR (x := .int .u8 s[i].toNat) ?_ ?_
          · have : Int.ofNat (Nat.mod (Nat.div (packL s.data.toList) (Nat.pow 256 i)) 256) = (s[i].toNat : Int) := by
              show ((packL s.data.toList / 256 ^ i % 256 : Nat) : Int) = _
              rw [hp]
            rw [this]; exact .int _ _
          · simp only [Instr.index, asIntOf, Sem.run_bind, Sem.run_pure, Result.andThen_ok, run_und hu]
            have h0 : (0 : Int) ≤ Int.ofNat i := by simp
            rw [if_pos h0]
            have : s[(Int.ofNat i).toNat]? = some s[i] := by
              show s[i]? = some s[i]
              simp [hi]
            rw [this]
            rfl
      · exact trivial
    · exact trivial
  · rename_i len elem hu
    split
    · rename_i g size hg hs
      refine binary2_sound fun w0 C H w ρ a b hR ha hb => ?_
      split
      · rename_i l k n
        split
        · rename_i hn
          have hn' : n < len := by rw [nblt] at hn; simpa using hn
          generalize ρ x = px at ha
          generalize ρ ix = pi at hb
          cases hb
          cases ha with
          | agg ha ha1 =>
            refine ret1_ok hR fun r hr => ?_
            obtain ⟨z, q1, q2⟩ := partA_spec (w := w) hg hs hr ha ha1
            refine ⟨z, ?_, q2⟩
            have h1 : (0 : Int) ≤ Int.ofNat n ∧ Int.ofNat n < (len : Int) := ⟨by simp, by simp; omega⟩
            have q1' : (part elem _ ((Int.ofNat n).toNat * size)).run P w = .ok z w := q1
            simp only [Instr.index, asIntOf, Sem.run_bind, Sem.run_pure, Result.andThen_ok, run_und hu, Sem.run_ite, if_pos h1, run_size hs, q1']
        · exact trivial
      · exact trivial
    · exact stuck_sound P _
  · exact stuck_sound P _

/-! ### Conversions -/
theorem bytesA_spec {C : CM} : ∀ {l : List AV} {n : Nat} {vs : List Value}, convF.bytesA l = some n → VRs C l vs → ∃ bs : List UInt8, bs.length = l.length ∧ packL bs = n ∧ vs = bs.map (fun b => Value.int .u8 (b.toNat : Int))
  | [], n, _, h, .nil => by cases h; exact ⟨[], rfl, rfl, rfl⟩
  | a :: l, n, _, h, .cons e es => by
    unfold convF.bytesA at h
    split at h
    · rename_i h'; cases h'
    · rename_i b l' h'
      cases h'
      split at h
      · rename_i hb
        split at h
        · rename_i m hm
          cases h
          have hb' : b < 256 := by rw [nblt] at hb; simpa using hb
          cases e
          obtain ⟨bs, q1, q2, q3⟩ := bytesA_spec hm es
          have hu : (UInt8.ofNat b).toNat = b := by simp; omega
          exact ⟨UInt8.ofNat b :: bs, by simp [q1], by rw [packL, hu, q2], by rw [List.map_cons, hu, q3]; rfl⟩
        · cases h
      · cases h
    · cases h

theorem strOf_bytes (bs : List UInt8) : (strOfNums (bs.map fun b => (b.toNat : Int))).data.toList = bs := by
  simp [strOfNums, Function.comp_def]

theorem bytesWorld_eq (w : World) (e : TypeId) (s : ByteArray) : Lib.bytesWorld w e s = w.drew.alloc (.cells (Lib.bytesCells w e s) e ((Lib.bytesCells w e s).size, (Lib.bytesCells w e s).size + 1)) := by
  have hh : (Lib.bytesWorld w e s).heap = (w.drew.alloc (.cells (Lib.bytesCells w e s) e ((Lib.bytesCells w e s).size, (Lib.bytesCells w e s).size + 1))).heap := by
    apply Array.ext_getElem?
    intro i
    rcases Nat.lt_trichotomy i w.heap.size with h | h | h
    · rw [Lib.bytesWorld_at_old w e s i h, heap_alloc_lt w.drew _ (show i < w.drew.heap.size from h)]; rfl
    · subst h; rw [Lib.bytesWorld_at_new]; exact (heap_alloc_new w.drew _).symm
    · rw [Array.getElem?_eq_none (by rw [Lib.bytesWorld_size]; omega), Array.getElem?_eq_none (by rw [World.size_alloc]; show w.heap.size + 1 ≤ i; omega)]
  show ({ heap := (Lib.bytesWorld w e s).heap, tape := w.tape, drawn := w.drawn + 1, os := w.os, output := w.output } : World) = _
  rw [hh]
  rfl

theorem conv_sound (P : Program) (src dst : TypeId) (x : Operand) : Sound P (convF P src dst x) (fun ρ => do pure (.value (← convert src dst (ρ x)))) := by
  unfold convF
  split
  · rename_i s k hs hd
    refine unary1_sound fun w0 C H w ρ a hR ha => ?_
    split
    · rename_i k' n
      generalize ρ x = px at ha
      cases ha
      refine val_same hR (x := .int k (k.wrap n)) (by rw [wrapA_spec]; exact .int _ _) ?_
      simp only [convert, Sem.run_bind, run_und hs, run_und hd, Result.andThen_ok, Conv.intToInt, Sem.run_pure]
    · exact trivial
  · rename_i e hs hd
    split
    · rename_i he
      refine unary1_sound fun w0 C H w ρ a hR ha => ?_
      split
      · generalize ρ x = px at ha
        cases ha
        refine val_same hR (x := .string .empty) (.str rfl rfl) ?_
        simp only [Sem.run_bind, run_convert_bytes_nil w src e hs he 0 0 dst hd, Result.andThen_ok, Sem.run_pure]
      · rename_i o v i len room
        split
        · rename_i l hl
          split
          · rename_i n hn
            generalize ρ x = px at ha
            cases ha with
            | @sl _ _ _ _ _ _ L cap hL =>
              obtain ⟨vs, h1, h2, h3, h4, h5, h6⟩ := hR.read P hl hL
              obtain ⟨bs, q1, q2, q3⟩ := bytesA_spec hn h2
              have hbl : bs.length = len := by omega
              refine val_same hR (x := .string (strOfNums (bs.map fun b => (b.toNat : Int)))) (.str (by rw [strOf_bytes, hbl]) (by rw [strOf_bytes, q2])) ?_
              have hr := run_convert_bytes_arg (P := P) w src e hs he L.b (L.d + i) len cap (bs.map fun b => (b.toNat : Int)) (by simp [hbl]) (fun j hj => by
                rw [Nat.add_assoc, h6 j hj, q3]
                simp [List.getElem?_map, List.getElem?_eq_getElem (show j < bs.length by omega), List.getD]) dst hd
              simp only [Sem.run_bind, hr, Result.andThen_ok, Sem.run_pure]
          · exact trivial
        · exact trivial
      · exact trivial
    · exact stuck_sound P _
  · rename_i s hne hs hd
    refine unary1_sound fun w0 C H w ρ a hR ha => ?_
    split
    · rename_i l n
      have ha0 := ha
      generalize hx : ρ x = px at ha
      cases ha
      refine val_same hR ha0 ?_
      rw [hx]
      cases s <;> simp_all [convert, run_und hs, run_und hd]
    · exact trivial
  · rename_i s e hs hd
    split
    · rename_i he hz
      refine unary1_sound fun w0 C H w ρ a hR ha => ?_
      split
      · rename_i len n
        split
        · rename_i o H' hn
          generalize ρ x = px at ha
          cases ha with
          | @str _ _ s' h1 h2 =>
            subst h1 h2
            rw [unpack_pack] at hn
            have hlen : s'.size ≤ grownCap w s'.size 0 e := grownCap_ge w s'.size 0 e
            have hcells : VRs C ((s'.data.toList.map (·.toNat)).map fun (b : Nat) => AV.int .u8 (Int.ofNat b)) (s'.data.toList.map fun b => Value.int .u8 (b.toNat : Int)) := by
              generalize s'.data.toList = q
              induction q with
              | nil => exact .nil
              | cons b q ih => exact .cons (.int _ _) ih
            have hsz : (Lib.bytesCells w e s').size = grownCap w s'.size 0 e := by simp [Lib.bytesCells]; omega
            have hll : ((s'.data.toList.map (·.toNat)).map fun (b : Nat) => AV.int .u8 (Int.ofNat b)).length = s'.size := by simp
            obtain ⟨C', hle, hR', hC'⟩ := hR.drew.newRow hn e ((Lib.bytesCells w e s').size, (Lib.bytesCells w e s').size + 1) (vs := Lib.bytesCells w e s') (by rw [hll, hsz]; exact hlen)
              (by
                rw [hll]
                have : (Lib.bytesCells w e s').toList.take s'.size = s'.data.toList.map fun b => Value.int .u8 (b.toNat : Int) := by
                  simp only [Lib.bytesCells, Array.toList_append, Array.toList_map]
                  rw [List.take_append_of_le_length (by simp), List.take_of_length_le (by simp)]
                rw [this]; exact hcells)
              (by intro a ha; simp only [List.mem_map] at ha; obtain ⟨b, _, rfl⟩ := ha; rfl) (fun i hi => by dsimp; omega)
            refine ⟨C', _, .slice (some ⟨w.heap.size, 0, none⟩) s'.size (grownCap w s'.size 0 e), hle, hR', ?_, .inl ?_⟩
            · have := VR.sl (i := 0) (len := s'.size) (esz := 1) (room := none) (cap := grownCap w s'.size 0 e) hC' (by rw [hll]; dsimp only; omega) (by rw [hsz]; dsimp only; omega) hlen (fun r hr => by cases hr) (fun _ => by rw [hsz]; simp)
              simpa using this
            · simp only [Sem.run_bind, Lib.run_convert_string_bytes w src dst e s' hs hd he, Result.andThen_ok, Sem.run_pure, bytesWorld_eq]
        · exact trivial
      · exact trivial
    · exact stuck_sound P _
  · exact stuck_sound P _

theorem extract_sound (P : Program) (x : Operand) (i : Nat) : Sound P (extractF x i) (fun ρ => do pure (.value (← Instr.extract (ρ x) i))) := by
  unfold extractF
  refine unary1_sound fun w0 C H w ρ a hR ha => ?_
  split
  · generalize ρ x = px at ha
    cases ha with
    | @tup _ vs ha =>
      refine ret1_ok hR fun r hr => ?_
      obtain ⟨v, q1, q2⟩ := ha.get hr
      have q1' : vs[i]? = some v := by simpa using q1
      exact ⟨v, by simp [Instr.extract, q1'], q2⟩
  · exact trivial

theorem assert_sound (P : Program) (x : Operand) (xt asserted : TypeId) (ok : Bool) : Sound P (assertF P x asserted ok) (fun ρ => do pure (.value (← Instr.typeAssert (ρ x) xt asserted ok))) := by
  unfold assertF
  split
  · exact stuck_sound P _
  · rename_i d hne hu
    split
    · exact stuck_sound P _
    · rename_i z hz
      refine unary1_sound fun w0 C H w ρ a hR ha => ?_
      obtain ⟨zv, hz1, hz2⟩ := run_zeroV (w := w) hz
      have hzr := absV_spec (C := C) hz2
      split
      · generalize ρ x = px at ha
        cases ha
        cases ok with
        | false => exact trivial
        | true =>
          refine val_same hR (x := .tuple #[zv, .bool false]) (.tup (.cons hzr (.cons (.bool _) .nil))) ?_
          simp only [Instr.typeAssert, Sem.run_bind, run_und hu, Result.andThen_ok]
          cases d <;> first | (simp [hz1]; done) | exact absurd hu (hne _)
      · rename_i t v
        generalize ρ x = px at ha
        cases ha with
        | @iface _ _ u ha =>
          split
          · rename_i he
            have he' : t = asserted := Nat.eq_of_beq_eq_true he
            subst he'
            cases ok with
            | false =>
              refine val_same hR (x := u) ha ?_
              simp only [Instr.typeAssert, Sem.run_bind, run_und hu, Result.andThen_ok]
              cases d <;> first | (simp; done) | exact absurd hu (hne _)
            | true =>
              refine val_same hR (x := .tuple #[u, .bool true]) (.tup (.cons ha (.cons (.bool _) .nil))) ?_
              simp only [Instr.typeAssert, Sem.run_bind, run_und hu, Result.andThen_ok]
              cases d <;> first | (simp; done) | exact absurd hu (hne _)
          · rename_i he
            have he' : ¬ t = asserted := fun e => by rw [e, Nat.beq_refl] at he; cases he
            cases ok with
            | false => exact trivial
            | true =>
              refine val_same hR (x := .tuple #[zv, .bool false]) (.tup (.cons hzr (.cons (.bool _) .nil))) ?_
              simp only [Instr.typeAssert, Sem.run_bind, run_und hu, Result.andThen_ok]
              cases d <;> first | (simp [hz1, he']; done) | exact absurd hu (hne _)
      · exact trivial
  · exact stuck_sound P _

end Go.Sv
