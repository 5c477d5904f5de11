/- Texts of the evaluator, of the logic over it, of plain arithmetic. -/
import Derived.Test.YtcbbilifblbblaaSvG1
namespace Go.Sv
section ok
variable {P : Program} {E : Tr AV} {ρ : Env}
theorem resOp_ok (hE : EnvR E ρ) {o : Op} {r : ROp} (h : resOp P o = some r) (H : Heap) : (compOp P o).run E H = evR P ρ H r := by
 cases o with
 | move x =>
  obtain ⟨q, h1, rfl⟩ := res1_ok h
  show (unary1 x _).run E H = _
  rw [unary1_run hE h1]; rfl
 | assign x =>
  obtain ⟨q, h1, rfl⟩ := res1_ok h
  show (unary1 x _).run E H = _
  rw [unary1_run hE h1]; rfl
 | pick c a b =>
  simp only [resOp] at h
  split at h
  ·rename_i c' a' b' h1 h2 h3
   cases h
   simp only [compOp]
   rw [resO_ok h1 hE, resO_ok h2 hE, resO_ok h3 hE]
   simp only [evR]
   generalize c'.ev ρ = v
   cases v with
   | bool t => cases t <;> rfl
   | _ => rfl
  ·cases h
 | alloc t =>
  simp only [resOp] at h
  simp only [compOp]
  cases hz : zeroT P t with
  | none => rw [hz] at h; cases h
  | some l => rw [hz] at h; cases h; rfl
 | box t x =>
  obtain ⟨q, h1, rfl⟩ := res1_ok h
  show (unary1 x _).run E H = _
  rw [unary1_run hE h1]; rfl
 | build t parts =>
  simp only [resOp] at h
  simp only [compOp, buildF]
  cases hz : zeroT P t with
  | none => rw [hz] at h; cases h
  | some cs =>
   rw [hz] at h
   dsimp only at h ⊢
   split at h
   ·rename_i fields hu
    rw [hu]
    dsimp only
    cases hf : fieldsAt P fields.toList with
    | none => rw [hf] at h; cases h
    | some pl =>
     rw [hf] at h
     dsimp only at h ⊢
     cases hp : resParts (pl[·]?) parts.toList with
     | none => rw [hp] at h; cases h
     | some ps =>
      rw [hp] at h
      cases h
      obtain ⟨qs, h1, h2⟩ := fillA_run hE (cs := cs) hp
      rw [h1]
      dsimp only
      rw [h2]
      rfl
   ·rename_i n elem hu
    rw [hu]
    dsimp only
    cases hs : sizeT P elem with
    | none => rw [hs] at h; cases h
    | some size =>
     rw [hs] at h
     dsimp only at h ⊢
     cases hp : resParts (fun i => some (i * size, size)) parts.toList with
     | none => rw [hp] at h; cases h
     | some ps =>
      rw [hp] at h
      cases h
      obtain ⟨qs, h1, h2⟩ := fillA_run hE (cs := cs) hp
      rw [h1]
      dsimp only
      rw [h2]
      rfl
   ·cases h
 | buildSlice t len parts =>
  simp only [resOp] at h
  simp only [compOp, buildSliceF]
  split at h
  ·rename_i elem hu
   rw [hu]
   dsimp only
   cases hs : sizeT P elem with
   | none => rw [hs] at h; cases h
   | some size =>
    rw [hs] at h
    dsimp only at h ⊢
    cases hz : zeroT P elem with
    | none => rw [hz] at h; cases h
    | some z =>
     rw [hz] at h
     dsimp only at h ⊢
     split at h
     ·rename_i hc
      rw [if_pos hc]
      cases hp : resParts (fun i => some (i * size, size)) parts.toList with
      | none => rw [hp] at h; cases h
      | some ps =>
       rw [hp] at h
       cases h
       obtain ⟨qs, h1, h2⟩ := fillA_run hE (cs := repeatL z len) hp
       rw [h1]
       dsimp only
       rw [h2]
       rfl
     ·cases h
  ·cases h
 | load t a =>
  simp only [resOp] at h
  simp only [compOp, loadF]
  split at h
  ·rename_i n h1 h2
   obtain ⟨q, h3, rfl⟩ := res1_ok h
   rw [h1, h2]
   dsimp only
   rw [unary1_run hE h3]; rfl
  ·rename_i n h1 h2
   obtain ⟨q, h3, rfl⟩ := res1_ok h
   rw [h1, h2]
   dsimp only
   rw [unary1_run hE h3]; rfl
  ·cases h
 | store t a x =>
  simp only [resOp] at h
  simp only [compOp, storeF]
  cases hs : sizeT P t with
  | none => rw [hs] at h; cases h
  | some n =>
   rw [hs] at h
   obtain ⟨q, p, h1, h2, rfl⟩ := res2_ok h
   dsimp only
   rw [binary2_run hE h1 h2]; rfl
 | nilCheck x =>
  obtain ⟨q, h1, rfl⟩ := res1_ok h
  show (unary1 x _).run E H = _
  rw [unary1_run hE h1]; rfl
 | binOp op t x y yt =>
  obtain ⟨q, p, h1, h2, rfl⟩ := res2_ok h
  simp only [compOp]
  rw [binary2_run hE h1 h2]; rfl
 | unOp op t x =>
  obtain ⟨q, h1, rfl⟩ := res1_ok h
  show (unary1 x _).run E H = _
  rw [unary1_run hE h1]; rfl
 | convert s d x =>
  simp only [resOp] at h
  simp only [compOp]
  unfold convF
  split at h
  ·rename_i d1 k h1 h2
   obtain ⟨q, h3, rfl⟩ := res1_ok h
   rw [h1, h2]
   dsimp only
   rw [unary1_run hE h3]; rfl
  ·rename_i e h1 h2
   rw [h1, h2]
   dsimp only
   split at h
   ·rename_i hu
    rw [hu]
    dsimp only
    obtain ⟨q, h3, rfl⟩ := res1_ok h
    rw [unary1_run hE h3]; rfl
   ·cases h
  ·rename_i d1 hne h1 h2
   obtain ⟨q, h3, rfl⟩ := res1_ok h
   rw [h1, h2]
   cases d1 with
   | slice e => exact absurd rfl (hne e)
   | _ => dsimp only; rw [unary1_run hE h3]; rfl
  ·rename_i d1 e h1 h2
   rw [h1, h2]
   dsimp only
   split at h
   ·rename_i k1 k2
    obtain ⟨q, h3, rfl⟩ := res1_ok h
    rw [k1, k2]
    exact (unary1_run hE h3 _ _).trans rfl
   ·cases h
  ·cases h
 | makeInterface t x =>
  simp only [resOp] at h
  simp only [compOp, mkIfaceF]
  cases hu : P.underlying t with
  | none => rw [hu] at h; cases h
  | some d =>
   rw [hu] at h
   cases d with
   | interface ms => cases h
   | _ => obtain ⟨q, h1, rfl⟩ := res1_ok h; dsimp only; rw [unary1_run hE h1]; rfl
 | makeFunc f first cap =>
  simp only [resOp] at h
  cases f with
  | yield l => cases h
  | _ =>
   dsimp only at h
   split at h
   ·rename_i a b h1 h2
    cases h
    simp only [compOp, mkFuncF]
    rw [resOs_ok h1 hE, resOs_ok h2 hE]
    rfl
   ·cases h
 | makeMap t r =>
  simp only [resOp] at h
  simp only [compOp, mkMapF]
  cases r with
  | none => cases h; rfl
  | some x =>
   dsimp only at h ⊢
   split at h
   ·rename_i k e hu
    obtain ⟨q, h1, rfl⟩ := res1_ok h
    rw [hu]
    dsimp only
    rw [unary1_run hE h1]; rfl
   ·cases h
 | makeSlice t l c =>
  simp only [resOp] at h
  simp only [compOp, mkSliceF]
  split at h
  ·rename_i elem hu
   rw [hu]
   dsimp only
   cases hi : P.info? elem with
   | none => rw [hi] at h; cases h
   | some i =>
    rw [hi] at h
    dsimp only at h ⊢
    cases hz : zeroT P elem with
    | none => rw [hz] at h; cases h
    | some z =>
     rw [hz] at h
     dsimp only at h ⊢
     split at h
     ·rename_i hc
      obtain ⟨q, p, h1, h2, rfl⟩ := res2_ok h
      rw [if_pos hc, binary2_run hE h1 h2]; rfl
     ·cases h
  ·cases h
 | slice t x lo hi mx =>
  simp only [resOp] at h
  simp only [compOp, sliceF]
  split at h
  ·rename_i hu
   rw [hu]
   dsimp only
   cases mx with
   | some m => cases h
   | none =>
    dsimp only at h ⊢
    split at h
    ·rename_i q a b h1 h2 h3
     cases h
     rw [resO_ok h1 hE, resOpt_ok h2 hE, resOpt_ok h3 hE]
     simp only [evR]
     cases q.ev ρ with
     | str len n =>
      cases optR ρ a with
      | none => rfl
      | some a' => cases optR ρ b <;> rfl
     | _ => rfl
    ·cases h
  ·rename_i elem hu
   rw [hu]
   dsimp only
   split at h
   ·cases h
   ·rename_i hc
    rw [if_neg hc]
    cases hs : sizeT P elem with
    | none => rw [hs] at h; cases h
    | some size =>
     rw [hs] at h
     obtain ⟨q, a, b, c, h1, h2, h3, h4, rfl⟩ := resSlice_ok h
     dsimp only
     rw [resO_ok h1 hE, resOpt_ok h2 hE, resOpt_ok h3 hE, resOpt_ok h4 hE]
     simp only [evR]
     generalize q.ev ρ = v
     generalize optR ρ a = a'
     generalize optR ρ b = b'
     generalize optR ρ c = c'
     cases v <;> cases a' <;> cases b' <;> cases c' <;> try rfl
     all_goals (rename_i z; cases z <;> rfl)
  ·rename_i n elem hu
   rw [hu]
   dsimp only
   split at h
   ·cases h
   ·rename_i hc
    rw [if_neg hc]
    cases hs : sizeT P elem with
    | none => rw [hs] at h; cases h
    | some size =>
     rw [hs] at h
     obtain ⟨q, a, b, c, h1, h2, h3, h4, rfl⟩ := resSlice_ok h
     dsimp only
     rw [resO_ok h1 hE, resOpt_ok h2 hE, resOpt_ok h3 hE, resOpt_ok h4 hE]
     simp only [evR]
     generalize q.ev ρ = v
     generalize optR ρ a = a'
     generalize optR ρ b = b'
     generalize optR ρ c = c'
     cases v <;> cases a' <;> cases b' <;> cases c' <;> rfl
  ·cases h
 | fieldAddr s x f =>
  simp only [resOp] at h
  simp only [compOp, fieldAddrF]
  split at h
  ·rename_i fields hu
   rw [hu]
   dsimp only
   cases hf : fields[f]? with
   | none => rw [hf] at h; cases h
   | some fd =>
    rw [hf] at h
    dsimp only at h ⊢
    split at h
    ·cases h
    ·cases h
    ·rename_i n hn hs
     obtain ⟨q, h1, rfl⟩ := res1_ok h
     rw [hs]
     cases n with
     | zero => exact absurd rfl hn
     | succ n => exact (unary1_run hE h1 _ _).trans rfl
  ·cases h
 | field t x f =>
  simp only [resOp] at h
  simp only [compOp, fieldF]
  split at h
  ·rename_i fields hu
   rw [hu]
   dsimp only
   cases hf : fields[f]? with
   | none => rw [hf] at h; cases h
   | some fd =>
    rw [hf] at h
    dsimp only at h ⊢
    split at h
    ·rename_i g n h1 h2
     obtain ⟨q, h3, rfl⟩ := res1_ok h
     rw [h1, h2]
     dsimp only
     rw [unary1_run hE h3]; rfl
    ·cases h
  ·cases h
 | indexAddr t x i =>
  simp only [resOp] at h
  simp only [compOp, indexAddrF]
  split at h
  ·rename_i elem hu
   rw [hu]
   dsimp only
   cases hs : sizeT P elem with
   | none => rw [hs] at h; cases h
   | some size =>
    rw [hs] at h
    obtain ⟨q, p, h1, h2, rfl⟩ := res2_ok h
    dsimp only
    rw [binary2_run hE h1 h2]; rfl
  ·rename_i len elem hu
   rw [hu]
   dsimp only
   cases hs : sizeT P elem with
   | none => rw [hs] at h; cases h
   | some size =>
    rw [hs] at h
    obtain ⟨q, p, h1, h2, rfl⟩ := res2_ok h
    dsimp only
    rw [binary2_run hE h1 h2]; rfl
  ·cases h
 | index t x i =>
  simp only [resOp] at h
  simp only [compOp, indexF]
  split at h
  ·rename_i hu
   obtain ⟨q, p, h1, h2, rfl⟩ := res2_ok h
   rw [hu]
   dsimp only
   rw [binary2_run hE h1 h2]; rfl
  ·rename_i len elem hu
   rw [hu]
   dsimp only
   split at h
   ·rename_i g size hg hs
    obtain ⟨q, p, h1, h2, rfl⟩ := res2_ok h
    rw [hg, hs]
    dsimp only
    rw [binary2_run hE h1 h2]; rfl
   ·cases h
  ·cases h
 | lookup t x i ok =>
  simp only [resOp] at h
  simp only [compOp, lookupF]
  split at h
  ·rename_i key elem hu
   rw [hu]
   dsimp only
   split at h
   ·rename_i d z hd hz
    obtain ⟨q, p, h1, h2, rfl⟩ := res2_ok h
    rw [hd, hz]
    dsimp only
    rw [binary2_run hE h1 h2]; rfl
   ·cases h
  ·cases h
 | mapUpdate t m k x =>
  simp only [resOp] at h
  simp only [compOp, mapUpdateF]
  split at h
  ·rename_i key elem hu
   rw [hu]
   dsimp only
   split at h
   ·rename_i d hd
    rw [hd]
    dsimp only
    split at h
    ·rename_i a b c h1 h2 h3
     cases h
     rw [resO_ok h1 hE, resO_ok h2 hE, resO_ok h3 hE]
     simp only [evR]
     cases a.ev ρ <;> rfl
    ·cases h
   ·cases h
  ·cases h
 | insert t m k x =>
  simp only [resOp] at h
  simp only [compOp, mapUpdateF]
  split at h
  ·rename_i key elem hu
   rw [hu]
   dsimp only
   split at h
   ·rename_i d hd
    rw [hd]
    dsimp only
    split at h
    ·rename_i a b c h1 h2 h3
     cases h
     rw [resO_ok h1 hE, resO_ok h2 hE, resO_ok h3 hE]
     simp only [evR]
     cases a.ev ρ <;> rfl
    ·cases h
   ·cases h
  ·cases h
 | range t x =>
  simp only [resOp] at h
  simp only [compOp, rangeF]
  split at h
  ·rename_i hu
   obtain ⟨q, h1, rfl⟩ := res1_ok h
   rw [hu]
   dsimp only
   rw [unary1_run hE h1]; rfl
  ·cases h
 | next it s =>
  simp only [resOp] at h
  simp only [compOp, nextF]
  cases s with
  | false => cases h
  | true =>
   obtain ⟨q, h1, rfl⟩ := res1_ok h
   rw [if_pos rfl, unary1_run hE h1]; rfl
 | typeAssert x xt t ok =>
  simp only [resOp] at h
  simp only [compOp, assertF]
  cases hu : P.underlying t with
  | none => rw [hu] at h; cases h
  | some d =>
   rw [hu] at h
   cases d with
   | interface ms => cases h
   | _ =>
    dsimp only at h ⊢
    cases hz : zeroV P t with
    | none => rw [hz] at h; cases h
    | some z => rw [hz] at h; obtain ⟨q, h1, rfl⟩ := res1_ok h; dsimp only; rw [unary1_run hE h1]; rfl
 | extract t i =>
  obtain ⟨q, h1, rfl⟩ := res1_ok h
  show (unary1 t _).run E H = _
  rw [unary1_run hE h1]; rfl
 | call c => exact resCall_ok hE h H
 | _ => cases h
end ok
end Go.Sv
namespace Go.Sv
open Go.RowKit (Below)
noncomputable def livesF (P : Program) (f : Nat) : Bool := match P.funcs[f]? with
 | some fn => match fn.params.toList with
  | [] => match fn.resultTypes.toList with
   | [t] => match P.underlying t with
    | some .bool => true
    | _ => false
   | _ => false
  | _ :: _ => false
 | none => false
def LivesRight (P : Program) (f : Nat) : Prop :=
 ∀ (w : World) cs, ∃ w' fr, Below w.heap.size w w' ∧ Steps P (lone (Frame.enter P f #[] .normal) cs w) (lone fr cs w') ∧ fr.fn = f ∧ fr.leaving P w' (.returned (.bool true))
theorem runA_lives {P : Program} (hm : P.follows .mixedOrders = true) {m f : Nat} (h : runA P noO m f = true) : LivesRight P f := by
 intro w cs
 unfold runA at h
 split at h
 ·rename_i H' hr
  obtain ⟨C', w', v', fr, h1, h2, h3, h4, h5, h6⟩ := callA_sound hm (noO_sound P) m w _ _ w (.fn f) [] [] _ _ (Rel.start w) .nil hr cs
  cases h3
  exact ⟨w', fr, h2.low, h4, h5, h6⟩
 ·cases h
theorem Rel.below {w0 : World} {C : CM} {H : Heap} {w w' : World} (h : Rel w0 C H w) (hb : Below w.heap.size w w') : Rel w0 C H w' := by
 have hsz : w0.heap.size ≤ w.heap.size := h.low.size
 exact ⟨h.nx, h.low.trans (hb.mono hsz), h.fresh, fun o v L hL => Nat.lt_of_lt_of_le (h.lt o v L hL) hb.size, h.excl,
  fun o ob ho hg => (h.obj o ob ho hg).frame (CM.le_refl C) (fun _ _ hL => hL) (fun v L hL => hb.block _ (h.lt o v L hL)), h.top⟩
noncomputable def libK (P : Program) (f : Nat) : Nat := match livesF P f with
 | true => 0
 | false => match P.funcs[f]? with
  | some fn => match fn.origin == "slices.Insert" with
   | true => 1
   | false => match fn.origin == "slices.Delete" with
    | true => 2
    | false => 0
  | none => 0
noncomputable def libZ (P : Program) (f : Nat) : Nat := match P.funcs[f]? with
 | some fn => match fn.targs[1]? with
  | some t => match sizeT P t with
   | some z => z
   | none => 0
  | none => 0
 | none => 0
noncomputable def rowTo (H : Heap) (o v len esz : Nat) (l : List AV) : RV := match H.get o with
 | some (.cells _ _ ver false) => match Nat.beq v ver with
  | true => .ok (.sl o (Nat.add ver 1) 0 len esz none) (H.put o (.cells (ofListFrom l 0 .e) l.length (Nat.add ver 1) false))
  | false => .no
 | _ => .no
noncomputable def insA (z : Nat) (H : Heap) : List AV → RV
 | [.nilSl, .int .i64 (.ofNat i), .sl o2 v2 i2 n2 esz2 _] => match Nat.beq i 0 && (Nat.beq n2 1 && (Nat.beq esz2 z && Nat.ble 1 z)) with
  | true => match readAt H o2 v2 i2 z with
   | some x => .ok (.sl H.next 0 0 1 z none) (H.push (.cells (ofListFrom x 0 .e) x.length 0 false))
   | none => .no
  | false => .no
 | [.sl o v j len esz _, .int .i64 (.ofNat i), .sl o2 v2 i2 n2 esz2 _] => match !(Nat.beq o o2) && (Nat.beq j 0 && (Nat.beq n2 1 && (Nat.beq esz2 z && (Nat.beq esz z && (Nat.ble i len && (Nat.ble 1 z && Nat.ble len lim)))))) with
  | true => match readAt H o v 0 (Nat.mul len z) with
   | some l => match readAt H o2 v2 i2 z with
    | some x => rowTo H o v (Nat.add len 1) z (l.take (Nat.mul i z) ++ x ++ l.drop (Nat.mul i z))
    | none => .no
   | none => .no
  | false => .no
 | _ => .no
noncomputable def delA (z : Nat) (H : Heap) : List AV → RV
 | [.sl o v j len esz _, .int .i64 (.ofNat i), .int .i64 (.ofNat i2)] => match Nat.beq j 0 && (Nat.beq i2 (Nat.add i 1) && (Nat.beq esz z && (Nat.ble i2 len && (Nat.ble 1 z && Nat.ble len lim)))) with
  | true => match readAt H o v 0 (Nat.mul len z) with
   | some l => rowTo H o v (Nat.sub len 1) z (l.take (Nat.mul i z) ++ l.drop (Nat.mul i2 z))
   | none => .no
  | false => .no
 | _ => .no
noncomputable def libA (k z : Nat) (H : Heap) (args : List AV) : RV := match k with
 | 1 => insA z H args
 | 2 => delA z H args
 | _ => .no
def LibRight (P : Program) (f : Nat) : Prop := ∀ w0 C H w args vs v H', Rel w0 C H w → VRs C args vs → libA (libK P f) (libZ P f) H args = .ok v H' → CallSteps P w0 C w (.fn f) vs v H'
noncomputable def takenF (P : Program) (f : Nat) : Bool := livesF P f || !(Nat.beq (libK P f) 0)
theorem lib_lives {P : Program} {f : Nat} (h : livesF P f = true) : libK P f = 0 := by unfold libK; rw [h]
open Classical in
noncomputable def OL (P : Program) : CallT := fun t args H => match t with
 | .fn f => if libK P f = 0 then (match args with
   | [] => if livesF P f = true ∧ LivesRight P f then .ok (.bool true) H else .no
   | _ => .no) else if LibRight P f then libA (libK P f) (libZ P f) H args else .no
 | _ => .no
theorem OL_no {P : Program} {f : Nat} (h : takenF P f = false) (args : List AV) (H : Heap) : OL P (.fn f) args H = .no := by
 unfold takenF at h
 simp only [Bool.or_eq_false_iff, Bool.not_eq_false'] at h
 have h0 := Nat.eq_of_beq_eq_true h.2
 unfold OL
 dsimp only
 rw [if_pos h0]
 split
 ·rw [if_neg (by rw [h.1]; simp)]
 ·rfl
theorem OL_yes {P : Program} {f : Nat} (h : livesF P f = true) (h2 : LivesRight P f) (H : Heap) : OL P (.fn f) [] H = .ok (.bool true) H := by
 unfold OL
 dsimp only
 rw [if_pos (lib_lives h)]
 exact if_pos ⟨h, h2⟩
theorem OL_sound (P : Program) : SoundCall P (OL P) := by
 intro w0 C H w t args vs v H' hR hV hc
 unfold OL at hc
 split at hc
 ·rename_i f
  split at hc
  ·split at hc
   ·split at hc
    ·rename_i hl
     cases hc
     cases hV
     intro cs
     obtain ⟨w', fr, h1, h2, h3, h4⟩ := hl.2 w cs
     exact ⟨C, w', .bool true, fr, CM.le_refl C, hR.below h1, .bool true, h2, h3, h4⟩
    ·cases hc
   ·cases hc
  ·split at hc
   ·rename_i hr
    exact hr _ _ _ _ _ _ _ _ hR hV hc
   ·cases hc
 ·cases hc
end Go.Sv
namespace Go.Sv
inductive LV where
 | any
 | bool (b : Bool)
 | u (x : UInt64)
 | b (x : UInt8)
 | i (n : Int)
 | int (k : IntKind) (n : Int)
 | str (l : List UInt8)
 | nilPtr
 | ptr (p i : Nat)
 | dptr (p k i : Nat)
 | cptr (l : List LV) (i : Nat)
 | nilSl
 | dy (p k : Nat)
 | vw (p k lo len : Nat)
 | vf (p k len : Nat)
 | lst (l : List LV) (len esz : Nat)
 | nilMap
 | map (p : Nat)
 | nilFn
 | fn (f : Fn) (first cap : List LV)
 | nilIf
 | iface (t : TypeId) (v : LV)
 | agg (l : List LV)
 | tup (l : List LV)
 deriving Inhabited
abbrev LEnv := List (Nat × LV)
def lk0 : LEnv → Nat → LV
 | [], _ => .any
 | (d, v) :: l, t => if t = d then v else lk0 l t
theorem hide_ex {α : Type} (f : α) : ∃ g : α, g = f := ⟨f, rfl⟩
noncomputable def hide {α : Type} (f : α) : α := Classical.choose (hide_ex f)
theorem hide_eq {α : Type} (f : α) : hide f = f := Classical.choose_spec (hide_ex f)
noncomputable def lk : LEnv → Nat → LV := hide lk0
theorem lk_nil (t : Nat) : lk [] t = .any := by unfold lk; rw [hide_eq]; rfl
theorem lk_cons (d : Nat) (v : LV) (l : LEnv) (t : Nat) : lk ((d, v) :: l) t = if t = d then v else lk l t := by unfold lk; rw [hide_eq]; rfl
inductive LObj where
 | dead (st : Nat)
 | cells (l : List LV) (st : Nat)
 | dyn (l : List LV) (len esz ver st : Nat)
 | map (es : List (LV × LV × Nat)) (clock st : Nat)
 | iter (l : List UInt8) (pos : Nat)
 | loop (s : LoopState) (pend : Option Code) (f n : Nat) (ρ : LEnv) (ps : Array Tmp) (a b : Code) (d : Nat)
 | defd (op : Bool)
abbrev LHeap := List LObj
def LObj.live : LObj → Bool
 | .dead _ => false
 | _ => true
def LObj.stp : LObj → Bool
 | .cells _ _ => true
 | .dyn _ _ _ _ _ => true
 | .map _ _ _ => true
 | _ => false
def LObj.st : LObj → Nat
 | .cells _ st => st
 | .dyn _ _ _ _ st => st
 | .map _ _ st => st
 | .dead st => st
 | _ => 0
def LV.cells : LV → Option (List LV)
 | .any => none
 | .agg cs => some cs
 | .tup _ => none
 | v => some [v]
mutual
noncomputable def toA : LV → AV
 | .bool b => .bool b
 | .u x => .int .u64 (Int.ofNat x.toNat)
 | .b x => .int .u8 (Int.ofNat x.toNat)
 | .i n => .int .i64 n
 | .int k n => .int k n
 | .str l => .str l.length (packL l)
 | .nilPtr => .nilPtr
 | .nilSl => .nilSl
 | .nilMap => .nilMap
 | .nilFn => .nilFn
 | .fn f _ _ => .fn f [] []
 | .nilIf => .nilIf
 | .agg l => .agg (toAs l)
 | .tup l => .tup (toAs l)
 | _ => .tup []
noncomputable def toAs : List LV → List AV
 | [] => []
 | v :: l => toA v :: toAs l
end
def LV.scal : LV → Bool
 | .bool _ | .u _ | .b _ | .i _ | .int _ _ | .str _ | .nilPtr | .nilSl | .nilMap | .nilFn | .nilIf => true
 | _ => false
def LV.cst : LV → Bool
 | .fn (.func _) [] [] => true
 | .agg l => l.all LV.scal
 | .tup [] => true
 | v => v.scal
structure Cx where
 hd : List (Nat × AV)
 Fz : Nat → Prop
 H : Heap
def slish : AV → Bool
 | .nilSl => true
 | .emp => true
 | .sl _ _ _ _ _ _ => true
 | _ => false
def tied (lo : Nat) (h a : AV) : Prop := lo = 0 → match a with
 | .sl _ _ _ _ _ room' => match h with
  | .sl _ _ _ len _ room => room' = room ∨ ∃ r, room' = some r ∧ r ≤ len
  | _ => True
 | _ => True
mutual
inductive AR (c : Cx) : LV → AV → Prop where
 | any (a : AV) : AR c .any a
 | bool (b : Bool) : AR c (.bool b) (.bool b)
 | u (x : UInt64) : AR c (.u x) (.int .u64 (Int.ofNat x.toNat))
 | b (x : UInt8) : AR c (.b x) (.int .u8 (Int.ofNat x.toNat))
 | i (n : Int) : AR c (.i n) (.int .i64 n)
 | int (k : IntKind) (n : Int) : AR c (.int k n) (.int k n)
 | str (l : List UInt8) : AR c (.str l) (.str l.length (packL l))
 | nilPtr : AR c .nilPtr .nilPtr
 | ptr {p i o : Nat} (h : c.hd[p]? = some (0, .ptr o 0 0)) : AR c (.ptr p i) (.ptr o 0 i)
 | dptr {p k i k' o v j : Nat} {h : AV} (hp : c.hd[p]? = some (k', h)) (hk : k ≤ k') (ha : k = k' → j = i ∧ ∃ len esz room, h = .sl o v 0 len esz room) : AR c (.dptr p k i) (.ptr o v j)
 | cptr {l : List LV} {i o v j : Nat} {l' : List AV} (hf : c.Fz o) (hr : readAt c.H o v j l.length = some l') (hl : ARs c l l') : AR c (.cptr l i) (.ptr o v (j + i))
 | nilSl : AR c .nilSl .nilSl
 | dy {p k k' : Nat} {h a : AV} (hp : c.hd[p]? = some (k', h)) (hk : k ≤ k') (ha : k = k' → a = h) (hs : slish a = true) : AR c (.dy p k) a
 | vw {p k lo len k' : Nat} {h a : AV} (hp : c.hd[p]? = some (k', h)) (hk : k ≤ k') (ha : k = k' → (len = 0 ∧ (a = .nilSl ∨ (a = .emp ∧ lo ≠ 0))) ∨ ∃ o v len' esz room room', h = .sl o v 0 len' esz room ∧ a = .sl o v (lo * esz) len esz room' ∧ ∀ r, room' = some r → len ≤ r) (hs : slish a = true) (hz : k = k' → tied lo h a) : AR c (.vw p k lo len) a
 | vf {p k len k' : Nat} {h a : AV} (hp : c.hd[p]? = some (k', h)) (hk : k ≤ k') (ha : k = k' → ∃ o v len' esz room, h = .sl o v 0 len' esz room ∧ a = .sl o v 0 len esz (some len)) (hs : slish a = true) : AR c (.vf p k len) a
 | lst {l : List LV} {len esz o v i : Nat} {room : Option Nat} {l' : List AV} (hf : c.Fz o) (hrm : ∀ r, room = some r → len ≤ r) (hlen : l.length = len * esz) (hr : readAt c.H o v i (len * esz) = some l') (hl : ARs c l l') : AR c (.lst l len esz) (.sl o v i len esz room)
 | lstNil {esz : Nat} : AR c (.lst [] 0 esz) .nilSl
 | lstEmp {esz : Nat} : AR c (.lst [] 0 esz) .emp
 | nilMap : AR c .nilMap .nilMap
 | map {p o : Nat} (h : c.hd[p]? = some (0, .map o)) : AR c (.map p) (.map o)
 | nilFn : AR c .nilFn .nilFn
 | fn {f : Nat} {l r : List LV} {l' r' : List AV} (hl : ARs c l l') (hr : ARs c r r') : AR c (.fn (.func f) l r) (.fn (.func f) l' r')
 | yield {p o : Nat} (h : c.hd[p]? = some (0, .ptr o 0 0)) : AR c (.fn (.yield p) [] []) (.fn (.yield o) [] [])
 | nilIf : AR c .nilIf .nilIf
 | iface {t : TypeId} {v : LV} {a : AV} (h : AR c v a) : AR c (.iface t v) (.iface t a)
 | agg {l : List LV} {l' : List AV} (h : ARs c l l') : AR c (.agg l) (.agg l')
 | tup {l : List LV} {l' : List AV} (h : ARs c l l') : AR c (.tup l) (.tup l')
inductive ARs (c : Cx) : List LV → List AV → Prop where
 | nil : ARs c [] []
 | cons {v : LV} {a : AV} {l : List LV} {r : List AV} (h : AR c v a) (hs : ARs c l r) : ARs c (v :: l) (a :: r)
end
inductive MRs (c : Cx) : List (LV × LV × Nat) → List (AV × AV × Nat) → Prop where
 | nil : MRs c [] []
 | cons {k v : LV} {a b : AV} {n : Nat} {l : List (LV × LV × Nat)} {r : List (AV × AV × Nat)} (hk : AR c k a) (hv : AR c v b) (h : MRs c l r) : MRs c ((k, v, n) :: l) ((a, b, n) :: r)
def EnvL (c : Cx) (ρ : LEnv) (E : Tr AV) : Prop := ∀ t, AR c (lk ρ t) ((getP (pathOf t) E).getD undefA)
def ObR (c : Cx) (k : Nat) (h : AV) : LObj → Prop
 | .dead _ => True
 | .cells l _ => k = 0 ∧ ∃ o t l', h = .ptr o 0 0 ∧ c.H.get o = some (.cells t l.length 0 false) ∧ getCells t 0 l.length = some l' ∧ ARs c l l'
 | .dyn l len esz ver _ => k = ver ∧ l.length = len * esz ∧ ((h = .nilSl ∧ len = 0) ∨ ∃ o v room t clen l', h = .sl o v 0 len esz room ∧ c.H.get o = some (.cells t clen v false) ∧ len * esz ≤ clen ∧
   getCells t 0 (len * esz) = some l' ∧ ARs c l l' ∧ (∀ r, room = some r → clen = r * esz ∧ len ≤ r) ∧ (room = none → clen = len * esz))
 | .map es ck _ => k = 0 ∧ ∃ o es', h = .map o ∧ c.H.get o = some (.map es' ck) ∧ MRs c es es'
 | .iter l pos => k = 0 ∧ ∃ o, h = .ptr o 0 0 ∧ c.H.get o = some (.iter l.length (packL l) pos)
 | .loop s pend f n ρ ps a b d => k = 0 ∧ ∃ o od E, h = .ptr o 0 0 ∧ c.hd[d]? = some (0, .ptr od 0 0) ∧ c.H.get o = some (.loop s pend f n E ps a b od) ∧ EnvL c ρ E
 | .defd op => k = 0 ∧ ∃ o, h = .ptr o 0 0 ∧ c.H.get o = some (.defd op)
def Own (c : Cx) (G : LHeap) (o : Nat) : Prop := ∃ (p : Nat) (ob : LObj) (k : Nat) (h : AV), G[p]? = some ob ∧ ob.live = true ∧ c.hd[p]? = some (k, h) ∧ idOf h = some o
structure HSim (c : Cx) (G : LHeap) : Prop where
 len : c.hd.length = G.length
 fz : ∀ o, c.Fz o → o < c.H.next
 lt : ∀ o, Own c G o → o < c.H.next
 sep : ∀ o, Own c G o → ¬ c.Fz o
 obj : ∀ (p : Nat) (ob : LObj) (k : Nat) (h : AV), G[p]? = some ob → c.hd[p]? = some (k, h) → ObR c k h ob
 excl : ∀ (p q : Nat) (ob ob' : LObj) (k : Nat) (h : AV) (k' : Nat) (h' : AV) (o : Nat), G[p]? = some ob → G[q]? = some ob' → ob.live = true → ob'.live = true → c.hd[p]? = some (k, h) → c.hd[q]? = some (k', h') → idOf h = some o → idOf h' = some o → p = q
def fixd : AV → Bool
 | .ptr _ _ _ => true
 | .map _ => true
 | _ => false
structure CxLe (c c' : Cx) : Prop where
 hd : ∀ (p k : Nat) (h : AV), c.hd[p]? = some (k, h) → ∃ (k' : Nat) (h' : AV), c'.hd[p]? = some (k', h') ∧ k ≤ k' ∧ (k = k' → h = h') ∧ (fixd h = true → k = k')
 fz : ∀ o, c.Fz o → c'.Fz o ∧ c'.H.get o = c.H.get o
structure Step (c : Cx) (G : LHeap) (c' : Cx) (G' : LHeap) : Prop where
 le : CxLe c c'
 nx : c.H.next ≤ c'.H.next
 frame : ∀ o, o < c.H.next → ¬ Own c G o → c'.H.get o = c.H.get o
 new : ∀ o, Own c' G' o → Own c G o ∨ c.H.next ≤ o
 fznew : ∀ o, c'.Fz o → c.Fz o ∨ Own c G o ∨ c.H.next ≤ o
 mono : ∀ (p : Nat) (ob ob' : LObj), G[p]? = some ob → G'[p]? = some ob' → ob.st ≤ ob'.st
 st : ∀ (p : Nat) (ob ob' : LObj) (k : Nat) (h : AV) (o : Nat), G[p]? = some ob → G'[p]? = some ob' → c.hd[p]? = some (k, h) → idOf h = some o → ob.stp = true → ob.st = ob'.st → ob' = ob ∧ c'.H.get o = c.H.get o ∧ c'.hd[p]? = c.hd[p]?
inductive Lx where
 | t (i : Nat)
 | c (v : LV)
noncomputable def Lx.ev (ρ : LEnv) : Lx → LV
 | .t i => lk ρ i
 | .c v => v
noncomputable def Lx.r : Lx → Ox
 | .t i => .t i
 | .c v => .c (toA v)
def Lx.ok : Lx → Bool
 | .t _ => true
 | .c v => v.cst
inductive LOp where
 | move (x : Lx)
 | pick (c a b : Lx)
 | alloc (l : List LV)
 | box (x : Lx)
 | build (cs : List LV) (ps : List (Nat × Nat × Lx))
 | buildSl (size len : Nat) (cs : List LV) (ps : List (Nat × Nat × Lx))
 | load1 (x : Lx)
 | loadN (n : Nat) (x : Lx)
 | store (n : Nat) (x y : Lx)
 | nilChk (x : Lx)
 | bin (op : BinOp) (g : Bool) (t : TypeId) (x y : Lx)
 | un (op : UnOp) (x : Lx)
 | cvInt (k : IntKind) (x : Lx)
 | cvStr (x : Lx)
 | cvSame (x : Lx)
 | cvBytes (x : Lx)
 | mkFunc (f : Nat) (first cap : List Lx)
 | mkSl (size : Nat) (z : List LV) (l c : Lx)
 | slStr (x : Lx) (lo hi : Option Lx)
 | slSl (size : Nat) (x : Lx) (lo hi : Option Lx)
 | slSl3 (size : Nat) (x : Lx) (lo hi : Option Lx) (mx : Lx)
 | fieldAddr (off : Nat) (x : Lx)
 | field (g : Bool) (n off : Nat) (x : Lx)
 | ixAddr (size : Nat) (x i : Lx)
 | ixStr (x i : Lx)
 | extract (i : Nat) (x : Lx)
 | lenStr (x : Lx)
 | lenSl (x : Lx)
 | maxi (mx : Bool) (x y : Lx)
 | max3 (mx : Bool) (x y z : Lx)
 | ixAddrArr (len size : Nat) (x i : Lx)
 | ixArr (g : Bool) (len size : Nat) (x i : Lx)
 | lenArr (n : Nat) (x : Lx)
 | appZ (size : Nat) (z : List LV) (s x : Lx)
 | appG (size : Nat) (s x : Lx)
 | copy (size : Nat) (d x : Lx)
 | clear (size : Nat) (z : List LV) (x : Lx)
 | mkMap0
 | mkMap1 (x : Lx)
 | lookup (d : TypeDesc) (z : LV) (ok : Bool) (x i : Lx)
 | mapUpd (d : TypeDesc) (m k v : Lx)
 | lenMap (x : Lx)
 | slArr (n size : Nat) (x : Lx) (lo hi : Option Lx)
 | callV (f : Lx) (args : List Lx)
 | mkIface (t : TypeId) (x : Lx)
 | assert (z : LV) (ok : Bool) (t : TypeId) (x : Lx)
 | clone (f : Nat) (x : Lx)
noncomputable def rps : List (Nat × Nat × Lx) → List (Nat × Nat × Ox)
 | [] => []
 | (a, b, x) :: l => (a, b, x.r) :: rps l
noncomputable def rxs : List Lx → List Ox
 | [] => []
 | x :: l => x.r :: rxs l
noncomputable def LOp.r : LOp → ROp
 | .move x => .move x.r
 | .pick c a b => .pick c.r a.r b.r
 | .alloc l => .alloc (toAs l)
 | .box x => .box x.r
 | .build cs ps => .build (toAs cs) (rps ps)
 | .buildSl s n cs ps => .buildSl s n (toAs cs) (rps ps)
 | .load1 x => .load1 x.r
 | .loadN n x => .loadN n x.r
 | .store n x y => .store n x.r y.r
 | .nilChk x => .nilChk x.r
 | .bin op g t x y => .bin op g t x.r y.r
 | .un op x => .un op x.r
 | .cvInt k x => .cvInt k x.r
 | .cvStr x => .cvStr x.r
 | .cvSame x => .cvSame x.r
 | .cvBytes x => .cvBytes x.r
 | .mkFunc f a b => .mkFunc (.func f) (rxs a) (rxs b)
 | .mkSl s z l c => .mkSl s (toAs z) l.r c.r
 | .slStr x lo hi => .slStr x.r (lo.map Lx.r) (hi.map Lx.r)
 | .slSl s x lo hi => .slSl s x.r (lo.map Lx.r) (hi.map Lx.r) none
 | .slSl3 s x lo hi mx => .slSl s x.r (lo.map Lx.r) (hi.map Lx.r) (some mx.r)
 | .fieldAddr o x => .fieldAddr o x.r
 | .field g n o x => .field g n o x.r
 | .ixAddr s x i => .ixAddr s x.r i.r
 | .ixStr x i => .ixStr x.r i.r
 | .extract i x => .extract i x.r
 | .lenStr x => .lenStr x.r
 | .lenSl x => .lenSl x.r
 | .maxi m x y => .maxi m [x.r, y.r]
 | .max3 m x y z => .maxi m [x.r, y.r, z.r]
 | .ixAddrArr l s x i => .ixAddrArr l s x.r i.r
 | .ixArr g l s x i => .ixArr g l s x.r i.r
 | .lenArr n x => .lenArr n x.r
 | .appZ s z a x => .appZ s (toAs z) a.r x.r
 | .appG s a x => .appG s a.r x.r
 | .copy s d x => .copy s d.r x.r
 | .clear s z x => .clear s (toAs z) x.r
 | .mkMap0 => .mkMap0
 | .mkMap1 x => .mkMap1 x.r
 | .lookup d z ok x i => .lookup d (toA z) ok x.r i.r
 | .mapUpd d m k v => .mapUpd d m.r k.r v.r
 | .lenMap x => .lenMap x.r
 | .slArr n s x lo hi => .slArr n s x.r (lo.map Lx.r) (hi.map Lx.r) none
 | .callV f l => .callV f.r (rxs l)
 | .mkIface t x => .mkIface t x.r
 | .assert z ok t x => .assert (toA z) ok t x.r
 | .clone f x => .callV (.c (.fn (.func f) [] [])) [x.r]
def inI (n : Int) : Prop := -9223372036854775808 ≤ n ∧ n < 9223372036854775808
noncomputable def addU : UInt64 → UInt64 → UInt64 := hide fun a b => a + b
noncomputable def subU : UInt64 → UInt64 → UInt64 := hide fun a b => a - b
noncomputable def mulU : UInt64 → UInt64 → UInt64 := hide fun a b => a * b
noncomputable def divU : UInt64 → UInt64 → UInt64 := hide fun a b => a / b
noncomputable def modU : UInt64 → UInt64 → UInt64 := hide fun a b => a % b
noncomputable def andU : UInt64 → UInt64 → UInt64 := hide fun a b => a &&& b
noncomputable def orU : UInt64 → UInt64 → UInt64 := hide fun a b => a ||| b
noncomputable def xorU : UInt64 → UInt64 → UInt64 := hide fun a b => a ^^^ b
noncomputable def notU : UInt64 → UInt64 := hide fun a => ~~~a
noncomputable def shlU : UInt64 → Nat → UInt64 := hide fun a s => UInt64.ofNat (a.toNat * 2 ^ s)
noncomputable def shrU : UInt64 → Nat → UInt64 := hide fun a s => UInt64.ofNat (a.toNat / 2 ^ s)
noncomputable def addB : UInt8 → UInt8 → UInt8 := hide fun a b => a + b
noncomputable def subB : UInt8 → UInt8 → UInt8 := hide fun a b => a - b
noncomputable def andB : UInt8 → UInt8 → UInt8 := hide fun a b => a &&& b
noncomputable def orB : UInt8 → UInt8 → UInt8 := hide fun a b => a ||| b
noncomputable def iU : Int → UInt64 := hide fun a => UInt64.ofInt a
noncomputable def bU : UInt8 → UInt64 := hide fun a => UInt64.ofNat a.toNat
noncomputable def uB : UInt64 → UInt8 := hide fun a => UInt8.ofNat a.toNat
noncomputable def iB : Int → UInt8 := hide fun a => UInt8.ofInt a
theorem addU_eq (a b : UInt64) : addU a b = a + b := by unfold addU; rw [hide_eq]
theorem subU_eq (a b : UInt64) : subU a b = a - b := by unfold subU; rw [hide_eq]
theorem mulU_eq (a b : UInt64) : mulU a b = a * b := by unfold mulU; rw [hide_eq]
theorem divU_eq (a b : UInt64) : divU a b = a / b := by unfold divU; rw [hide_eq]
theorem modU_eq (a b : UInt64) : modU a b = a % b := by unfold modU; rw [hide_eq]
theorem andU_eq (a b : UInt64) : andU a b = a &&& b := by unfold andU; rw [hide_eq]
theorem orU_eq (a b : UInt64) : orU a b = a ||| b := by unfold orU; rw [hide_eq]
theorem xorU_eq (a b : UInt64) : xorU a b = a ^^^ b := by unfold xorU; rw [hide_eq]
theorem notU_eq (a : UInt64) : notU a = ~~~a := by unfold notU; rw [hide_eq]
theorem shlU_eq (a : UInt64) (s : Nat) : shlU a s = UInt64.ofNat (a.toNat * 2 ^ s) := by unfold shlU; rw [hide_eq]
theorem shrU_eq (a : UInt64) (s : Nat) : shrU a s = UInt64.ofNat (a.toNat / 2 ^ s) := by unfold shrU; rw [hide_eq]
theorem addB_eq (a b : UInt8) : addB a b = a + b := by unfold addB; rw [hide_eq]
theorem subB_eq (a b : UInt8) : subB a b = a - b := by unfold subB; rw [hide_eq]
theorem andB_eq (a b : UInt8) : andB a b = a &&& b := by unfold andB; rw [hide_eq]
theorem orB_eq (a b : UInt8) : orB a b = a ||| b := by unfold orB; rw [hide_eq]
theorem iU_eq (a : Int) : iU a = UInt64.ofInt a := by unfold iU; rw [hide_eq]
theorem bU_eq (a : UInt8) : bU a = UInt64.ofNat a.toNat := by unfold bU; rw [hide_eq]
theorem uB_eq (a : UInt64) : uB a = UInt8.ofNat a.toNat := by unfold uB; rw [hide_eq]
theorem iB_eq (a : Int) : iB a = UInt8.ofInt a := by unfold iB; rw [hide_eq]
noncomputable def uuL (op : BinOp) (a b : UInt64) (K : LV → Prop) : Prop := match op with
 | .add => K (.u (addU a b))
 | .sub => K (.u (subU a b))
 | .mul => K (.u (mulU a b))
 | .quo => b ≠ 0 ∧ K (.u (divU a b))
 | .rem => b ≠ 0 ∧ K (.u (modU a b))
 | .and => K (.u (andU a b))
 | .or => K (.u (orU a b))
 | .xor => K (.u (xorU a b))
 | .andNot => K (.u (andU a (notU b)))
 | .shl => K (.u (shlU a b.toNat))
 | .shr => K (.u (shrU a b.toNat))
 | .eql => K (.bool (decide (a = b)))
 | .neq => K (.bool (decide (a ≠ b)))
 | .lss => K (.bool (decide (a < b)))
 | .leq => K (.bool (decide (a ≤ b)))
 | .gtr => K (.bool (decide (b < a)))
 | .geq => K (.bool (decide (b ≤ a)))
noncomputable def bbL (op : BinOp) (a b : UInt8) (K : LV → Prop) : Prop := match op with
 | .add => K (.b (addB a b))
 | .sub => K (.b (subB a b))
 | .and => K (.b (andB a b))
 | .or => K (.b (orB a b))
 | .eql => K (.bool (decide (a = b)))
 | .neq => K (.bool (decide (a ≠ b)))
 | .lss => K (.bool (decide (a < b)))
 | .leq => K (.bool (decide (a ≤ b)))
 | .gtr => K (.bool (decide (b < a)))
 | .geq => K (.bool (decide (b ≤ a)))
 | _ => False
def iiL (op : BinOp) (a b : Int) (K : LV → Prop) : Prop := match op with
 | .add => inI (a + b) ∧ K (.i (a + b))
 | .sub => inI (a - b) ∧ K (.i (a - b))
 | .mul => inI (a * b) ∧ K (.i (a * b))
 | .quo => b ≠ 0 ∧ inI (a.tdiv b) ∧ K (.i (a.tdiv b))
 | .rem => b ≠ 0 ∧ K (.i (a.tmod b))
 | .shl => 0 ≤ a ∧ 0 ≤ b ∧ b ≤ 64 ∧ inI (a * 2 ^ b.toNat) ∧ K (.i (a * 2 ^ b.toNat))
 | .shr => 0 ≤ a ∧ 0 ≤ b ∧ b ≤ 64 ∧ K (.i (a / 2 ^ b.toNat))
 | .and => 0 ≤ a ∧ a < 9223372036854775808 ∧ 0 ≤ b ∧ b < 9223372036854775808 ∧ K (.i (a.toNat &&& b.toNat : Nat))
 | .or => 0 ≤ a ∧ a < 9223372036854775808 ∧ 0 ≤ b ∧ b < 9223372036854775808 ∧ K (.i (a.toNat ||| b.toNat : Nat))
 | .eql => K (.bool (decide (a = b)))
 | .neq => K (.bool (decide (a ≠ b)))
 | .lss => K (.bool (decide (a < b)))
 | .leq => K (.bool (decide (a ≤ b)))
 | .gtr => K (.bool (decide (b < a)))
 | .geq => K (.bool (decide (b ≤ a)))
 | _ => False
def kkL (op : BinOp) (a b : Int) (K : LV → Prop) : Prop := match op with
 | .eql => K (.bool (decide (a = b)))
 | .neq => K (.bool (decide (a ≠ b)))
 | .lss => K (.bool (decide (a < b)))
 | .leq => K (.bool (decide (a ≤ b)))
 | .gtr => K (.bool (decide (b < a)))
 | .geq => K (.bool (decide (b ≤ a)))
 | _ => False
def ssL (op : BinOp) (a b : List UInt8) (K : LV → Prop) : Prop := match op with
 | .add => a.length + b.length ≤ 1000000000 ∧ K (.str (a ++ b))
 | .eql => K (.bool (decide (a = b)))
 | .neq => K (.bool (decide (a ≠ b)))
 | _ => False
noncomputable def nilL (P : Program) (op : BinOp) (g : Bool) (t : TypeId) (a b : AV) (r : Bool) (K : LV → Prop) : Prop := match op with
 | .eql => eqA P g t a b = some r ∧ K (.bool r)
 | .neq => eqA P g t a b = some r ∧ K (.bool (!r))
 | _ => False
noncomputable def aggL (P : Program) (op : BinOp) (g : Bool) (t : TypeId) (l r : List LV) (K : LV → Prop) : Prop := match op with
 | .eql => ∃ b, l.all LV.scal = true ∧ r.all LV.scal = true ∧ eqA P g t (.agg (toAs l)) (.agg (toAs r)) = some b ∧ K (.bool b)
 | .neq => ∃ b, l.all LV.scal = true ∧ r.all LV.scal = true ∧ eqA P g t (.agg (toAs l)) (.agg (toAs r)) = some b ∧ K (.bool (!b))
 | _ => False
def lstN (op : BinOp) (len : Nat) (K : LV → Prop) : Prop := match op with
 | .eql => K (.bool false) ∧ (len = 0 → K (.bool true))
 | .neq => K (.bool true) ∧ (len = 0 → K (.bool false))
 | _ => False
noncomputable def binL (P : Program) (op : BinOp) (g : Bool) (t : TypeId) (x y : LV) (K : LV → Prop) : Prop := match x, y with
 | .u a, .u b => uuL op a b K
 | .i a, .i b => iiL op a b K
 | .b a, .b b => bbL op a b K
 | .bool a, .bool b => match op with
  | .eql => eqA P g t (.bool a) (.bool b) = some (a == b) ∧ K (.bool (a == b))
  | .neq => eqA P g t (.bool a) (.bool b) = some (a == b) ∧ K (.bool (!(a == b)))
  | _ => False
 | .u a, .i s => match op with
  | .shl => 0 ≤ s ∧ K (.u (shlU a s.toNat))
  | .shr => 0 ≤ s ∧ K (.u (shrU a s.toNat))
  | _ => False
 | .i a, .u s => match op with
  | .shl => 0 ≤ a ∧ s.toNat ≤ 64 ∧ inI (a * 2 ^ s.toNat) ∧ K (.i (a * 2 ^ s.toNat))
  | .shr => 0 ≤ a ∧ s.toNat ≤ 64 ∧ K (.i (a / 2 ^ s.toNat))
  | _ => False
 | .int k a, .int k' b => k = k' ∧ kkL op a b K
 | .str a, .str b => ssL op a b K
 | .nilPtr, .nilPtr => nilL P op g t .nilPtr .nilPtr true K
 | .ptr _ _, .nilPtr => nilL P op g t (.ptr 0 0 0) .nilPtr false K
 | .nilSl, .nilSl => nilL P op g t .nilSl .nilSl true K
 | .lst _ len _, .nilSl => eqA P g t .nilSl .nilSl = some true ∧ lstN op len K
 | .agg l, .agg r => aggL P op g t l r K
 | .nilMap, .nilMap => nilL P op g t .nilMap .nilMap true K
 | .map _, .nilMap => nilL P op g t (.map 0) .nilMap false K
 | .nilIf, .nilIf => nilL P op g t .nilIf .nilIf true K
 | .iface _ _, .nilIf => nilL P op g t (.iface 0 .nilMap) .nilIf false K
 | _, _ => False
noncomputable def unL (op : UnOp) (x : LV) (K : LV → Prop) : Prop := match op, x with
 | .not, .bool b => K (.bool (!b))
 | .neg, .u a => K (.u (subU 0 a))
 | .neg, .i a => inI (-a) ∧ K (.i (-a))
 | .xor, .u a => K (.u (notU a))
 | _, _ => False
def w32 (n : Int) : Int := (n + 2147483648) % 4294967296 - 2147483648
noncomputable def cvL (k : IntKind) (x : LV) (K : LV → Prop) : Prop := match k, x with
 | .u64, .u a => K (.u a)
 | .u64, .i a => K (.u (iU a))
 | .u64, .b a => K (.u (bU a))
 | .i64, .u a => a.toNat < 9223372036854775808 ∧ K (.i a.toNat)
 | .i64, .i a => inI a ∧ K (.i a)
 | .i64, .b a => K (.i a.toNat)
 | .u8, .u a => K (.b (uB a))
 | .u8, .i a => K (.b (iB a))
 | .u8, .b a => K (.b a)
 | .u8, .int _ a => K (.b (iB a))
 | .i32, .i a => K (.int .i32 (w32 a))
 | .i64, .int _ a => inI a ∧ K (.i a)
 | _, _ => False
def brL (t : Bool) (A B : Prop) : Prop := (t = true → A) ∧ (t = false → B)
def brV (v : LV) (A B : Prop) : Prop := match v with
 | .bool t => brL t A B
 | _ => False
def readL (G : LHeap) (x : LV) (n : Nat) (K : List LV → Prop) : Prop := match x with
 | .ptr p i => match G[p]? with
  | some (.cells l _) => i + n ≤ l.length ∧ K ((l.drop i).take n)
  | _ => False
 | .dptr p k i => match G[p]? with
  | some (.dyn l _ _ ver _) => k = ver ∧ i + n ≤ l.length ∧ K ((l.drop i).take n)
  | _ => False
 | .cptr l i => i + n ≤ l.length ∧ K ((l.drop i).take n)
 | _ => False
def nthL (l : List LV) (i : Nat) (K : LV → Prop) : Prop := ∃ v, l[i]? = some v ∧ K v
def read1 (G : LHeap) (x : LV) (K : LV → Prop) : Prop := match x with
 | .ptr p i => match G[p]? with
  | some (.cells l _) => nthL l i K
  | _ => False
 | .dptr p k i => match G[p]? with
  | some (.dyn l _ _ ver _) => k = ver ∧ nthL l i K
  | _ => False
 | .cptr l i => nthL l i K
 | _ => False
def layLV (l : List LV) (i : Nat) (r : List LV) : List LV := l.take i ++ r ++ l.drop (i + r.length)
def writeL (G : LHeap) (x : LV) (r : List LV) (K : LHeap → Prop) : Prop := match x with
 | .ptr p i => match G[p]? with
  | some (.cells l st) => i + r.length ≤ l.length ∧ K (G.set p (.cells (layLV l i r) (st + 1)))
  | _ => False
 | .dptr p k i => match G[p]? with
  | some (.dyn l len esz ver st) => k = ver ∧ i + r.length ≤ l.length ∧ K (G.set p (.dyn (layLV l i r) len esz ver (st + 1)))
  | _ => False
 | _ => False
def repL (z : List LV) : Nat → List LV
 | 0 => []
 | n + 1 => z ++ repL z n
def rowL (G : LHeap) (size : Nat) (x : LV) (K : Nat → List LV → Prop) : Prop := match x with
 | .nilSl => K 0 []
 | .dy p k => match G[p]? with
  | some (.dyn l len esz ver _) => k = ver ∧ esz = size ∧ K len l
  | _ => False
 | .vw p k lo len => match G[p]? with
  | some (.dyn l _ esz ver _) => k = ver ∧ esz = size ∧ lo * esz + len * esz ≤ l.length ∧ K len ((l.drop (lo * esz)).take (len * esz))
  | _ => False
 | .lst l len esz => esz = size ∧ K len l
 | .str l => size = 1 ∧ K l.length (l.map LV.b)
 | _ => False
def bytL (G : LHeap) (x : LV) (K : List LV → Prop) : Prop := match x with
 | .nilSl => K []
 | .dy p k => match G[p]? with
  | some (.dyn l _ esz ver _) => k = ver ∧ esz = 1 ∧ K l
  | _ => False
 | .lst l len esz => esz = 1 ∧ len ≠ 0 ∧ K l
 | _ => False
def lenL (G : LHeap) (x : LV) (K : Nat → Prop) : Prop := match x with
 | .nilSl => K 0
 | .dy p k => match G[p]? with
  | some (.dyn _ len _ ver _) => k = ver ∧ K len
  | _ => False
 | .vw p k _ len => match G[p]? with
  | some (.dyn _ _ _ ver _) => k = ver ∧ K len
  | _ => False
 | .lst _ len _ => K len
 | _ => False
def appL (G : LHeap) (size : Nat) (s : LV) (n : Nat) (new : List LV) (K : LV → LHeap → Prop) : Prop := match s with
 | .nilSl => K (.dy G.length 0) (G ++ [.dyn new n size 0 0])
 | .dy p k => match G[p]? with
  | some (.dyn l len esz ver st) => k = ver ∧ (esz = size ∧ 0 < esz) ∧ len ≤ 1000000000 ∧ K (.dy p (ver + 1)) (G.set p (.dyn (l ++ new) (len + n) esz (ver + 1) (st + 1)))
  | _ => False
 | .vw p k lo len => match G[p]? with
  | some (.dyn l len0 esz ver st) => k = ver ∧ (esz = size ∧ lo = 0 ∧ 0 < n) ∧ len ≤ 1000000000 ∧ if (len + n) * esz ≤ l.length then K (.vw p k 0 (len + n)) (G.set p (.dyn (layLV l (len * esz) new) len0 esz ver (st + 1))) ∧ K (.dy G.length 0) (G ++ [.dyn (l.take (len * esz) ++ new) (len + n) size 0 0]) else len = len0 ∧ 0 < esz ∧ K (.dy p (ver + 1)) (G.set p (.dyn (l ++ new) (len + n) esz (ver + 1) (st + 1))) ∧ K (.dy G.length 0) (G ++ [.dyn (l ++ new) (len + n) size 0 0])
  | _ => False
 | .vf p k len => match G[p]? with
  | some (.dyn l _ esz ver _) => k = ver ∧ (esz = size ∧ 0 < n) ∧ len ≤ 1000000000 ∧ len * esz ≤ l.length ∧ K (.dy G.length 0) (G ++ [.dyn (l.take (len * esz) ++ new) (len + n) size 0 0])
  | _ => False
 | _ => False
noncomputable def fillL (ρ : LEnv) (cs : List LV) : List (Nat × Nat × Lx) → Option (List LV)
 | [] => some cs
 | (off, size, x) :: ps => match (x.ev ρ).cells with
  | none => none
  | some l => if l.length = size ∧ off + size ≤ cs.length then fillL ρ (layLV cs off l) ps else none
def keyL (d : TypeDesc) (a b : LV) : Option Bool := match d, a, b with
 | .int _, .i a, .i b => some (decide (a = b))
 | .int _, .u a, .u b => some (decide (a = b))
 | .string, .str a, .str b => some (decide (a = b))
 | _, _, _ => none
def findL (d : TypeDesc) (k : LV) (K : Option LV → Prop) : List (LV × LV × Nat) → Prop
 | [] => K none
 | (k', v, _) :: l => match keyL d k k' with
  | some b => brL b (K (some v)) (findL d k K l)
  | none => False
def putL (d : TypeDesc) (k v : LV) (clock : Nat) (K : List (LV × LV × Nat) → Bool → Prop) : List (LV × LV × Nat) → Prop
 | [] => K [(k, v, clock)] true
 | (k', v', n) :: l => match keyL d k k' with
  | some b => brL b (K ((k, v, n) :: l) false) (putL d k v clock (fun r new => K ((k', v', n) :: r) new) l)
  | none => False
def mapL (G : LHeap) (x : LV) (K : List (LV × LV × Nat) → Prop) : Prop := match x with
 | .nilMap => K []
 | .map p => match G[p]? with
  | some (.map es _ _) => K es
  | _ => False
 | _ => False
def lookK (z : LV) (ok : Bool) (K : LV → Prop) : Option LV → Prop
 | some v => K (match ok with | true => .tup [v, .bool true] | false => v)
 | none => K (match ok with | true => .tup [z, .bool false] | false => z)
def setK (G : LHeap) (p ck st : Nat) (K : LHeap → Prop) : List (LV × LV × Nat) → Bool → Prop := fun es new => K (G.set p (.map es (match new with | true => ck + 1 | false => ck) (st + 1)))
def updL' (G : LHeap) (d : TypeDesc) (m k v : LV) (K : LHeap → Prop) : Prop := match m with
 | .map p => match G[p]? with
  | some (.map es ck st) => putL d k v ck (setK G p ck st K) es
  | _ => False
 | _ => False
noncomputable def bndL (ρ : LEnv) (d : Nat) (x : Option Lx) (K : Nat → Prop) : Prop := match x with
 | none => K d
 | some x => match x.ev ρ with
  | .i n => 0 ≤ n ∧ K n.toNat
  | .u n => K n.toNat
  | _ => False
def fullV (p k a b m : Nat) : LV := match decide (a = 0 ∧ b = m ∧ 0 < b) with
 | true => .vf p k b
 | false => .vw p k a (b - a)
def ixO (G : LHeap) (size : Nat) (x : LV) (n : Int) (K : LV → Prop) : Prop := match x with
 | .dy p k => match G[p]? with
  | some (.dyn _ len esz ver _) => k = ver ∧ esz = size ∧ 0 ≤ n ∧ n < len ∧ K (.dptr p k (n.toNat * size))
  | _ => False
 | .vw p k lo len => match G[p]? with
  | some (.dyn _ _ esz ver _) => k = ver ∧ esz = size ∧ 0 ≤ n ∧ n < len ∧ K (.dptr p k ((lo + n.toNat) * size))
  | _ => False
 | .lst l len esz => esz = size ∧ 0 ≤ n ∧ n < len ∧ K (.cptr l (n.toNat * size))
 | _ => False
def asrtL (z : LV) (ok : Bool) (t : TypeId) (x : LV) (K : LV → Prop) : Prop := match x with
 | .nilIf => ok = true ∧ K (.tup [z, .bool false])
 | .iface t' v => match Nat.beq t' t with
  | true => K (match ok with | true => .tup [v, .bool true] | false => v)
  | false => ok = true ∧ K (.tup [z, .bool false])
 | _ => False
def clnL (G : LHeap) (x : LV) (K : LV → LHeap → Prop) : Prop := match x with
 | .iface t (.map p) => match G[p]? with
  | some (.map es ck _) => K (.iface t (.map G.length)) (G ++ [.map es ck 0])
  | _ => False
 | _ => False
inductive LTgt where
 | fn (f : Nat)
 | yield (p : Nat)
def TgtR (c : Cx) : LTgt → Tgt → Prop
 | .fn f, .fn g => f = g
 | .yield p, .yield o => c.hd[p]? = some (0, .ptr o 0 0)
 | _, _ => False
def tgtOk (P : Program) : LTgt → Prop
 | .fn f => callable P f = true ∧ isClone P f = false
 | .yield _ => True
def CallL (P : Program) (t : LTgt) (args : List LV) (G : LHeap) (K : LV → LHeap → Prop) : Prop :=
 tgtOk P t ∧ ∀ c t1 args1, HSim c G → TgtR c t t1 → ARs c args args1 → ∃ m v1 H', callA P (OL P) m t1 args1 c.H = .ok v1 H' ∧ ∃ c' v G', c'.H = H' ∧ HSim c' G' ∧ Step c G c' G' ∧ AR c' v v1 ∧ K v G'
noncomputable def OpL (P : Program) (ρ : LEnv) (G : LHeap) (o : LOp) (K : LV → LHeap → Prop) : Prop := match o with
 | .move x => K (x.ev ρ) G
 | .pick c a b => match c.ev ρ with
  | .bool t => match a.ev ρ, b.ev ρ with
   | .bool x, .bool y => K (.bool (match t with | true => x | false => y)) G
   | x, y => brL t (K x G) (K y G)
  | _ => False
 | .alloc l => K (.ptr G.length 0) (G ++ [.cells l 0])
 | .box x => match (x.ev ρ).cells with
  | some l => K (.ptr G.length 0) (G ++ [.cells l 0])
  | none => False
 | .build cs ps => match fillL ρ cs ps with
  | some l => K (.agg l) G
  | none => False
 | .buildSl size len cs ps => match fillL ρ cs ps with
  | some l => l.length = len * size ∧ K (.dy G.length 0) (G ++ [.dyn l len size 0 0])
  | none => False
 | .load1 x => read1 G (x.ev ρ) fun v => K v G
 | .loadN n x => readL G (x.ev ρ) n fun l => K (.agg l) G
 | .store n x y => match (y.ev ρ).cells with
  | some l => l.length = n ∧ writeL G (x.ev ρ) l fun G' => K (.tup []) G'
  | none => False
 | .nilChk x => match x.ev ρ with
  | .ptr p i => K (.ptr p i) G
  | .dptr p k i => K (.dptr p k i) G
  | .cptr l i => K (.cptr l i) G
  | .fn (.func f) a b => K (.fn (.func f) a b) G
  | _ => False
 | .bin op g t x y => binL P op g t (x.ev ρ) (y.ev ρ) fun v => K v G
 | .un op x => unL op (x.ev ρ) fun v => K v G
 | .cvInt k x => cvL k (x.ev ρ) fun v => K v G
 | .cvStr x => bytL G (x.ev ρ) fun l => ∃ bs : List UInt8, l = bs.map LV.b ∧ K (.str bs) G
 | .cvSame x => match x.ev ρ with
  | .str l => K (.str l) G
  | _ => False
 | .cvBytes x => match x.ev ρ with
  | .str l => K (.dy G.length 0) (G ++ [.dyn (l.map LV.b) l.length 1 0 0])
  | _ => False
 | .mkFunc f a b => K (.fn (.func f) (a.map (·.ev ρ)) (b.map (·.ev ρ))) G
 | .mkSl size z l c => match l.ev ρ, c.ev ρ with
  | .i l, .i c => l = c ∧ 0 ≤ l ∧ l ≤ 1048576 ∧ z.length = size ∧ K (.dy G.length 0) (G ++ [.dyn (repL z l.toNat) l.toNat size 0 0])
  | _, _ => False
 | .slStr x lo hi => match x.ev ρ with
  | .str l => bndL ρ 0 lo fun a => bndL ρ l.length hi fun b => a ≤ b ∧ b ≤ l.length ∧ K (.str ((l.drop a).take (b - a))) G
  | _ => False
 | .slSl size x lo hi => match x.ev ρ with
  | .nilSl => bndL ρ 0 lo fun a => bndL ρ 0 hi fun b => a = 0 ∧ b = 0 ∧ K .nilSl G
  | .dy p k => match G[p]? with
   | some (.dyn _ len esz ver _) => k = ver ∧ esz = size ∧ bndL ρ 0 lo fun a => bndL ρ len hi fun b => a ≤ b ∧ b ≤ len ∧ K (.vw p k a (b - a)) G
   | _ => False
  | .vw p k l0 len => match G[p]? with
   | some (.dyn _ _ esz ver _) => k = ver ∧ esz = size ∧ bndL ρ 0 lo fun a => bndL ρ len hi fun b => a ≤ b ∧ b ≤ len ∧ K (.vw p k (l0 + a) (b - a)) G
   | _ => False
  | .lst l len esz => esz = size ∧ bndL ρ 0 lo fun a => bndL ρ len hi fun b => a ≤ b ∧ b ≤ len ∧ K (.lst ((l.drop (a * esz)).take ((b - a) * esz)) (b - a) esz) G
  | _ => False
 | .slSl3 size x lo hi mx => match x.ev ρ with
  | .dy p k => match G[p]? with
   | some (.dyn _ len esz ver _) => k = ver ∧ esz = size ∧ bndL ρ 0 lo fun a => bndL ρ len hi fun b => bndL ρ 0 (some mx) fun m => 0 < len ∧ a ≤ b ∧ b ≤ m ∧ m ≤ len ∧ K (fullV p k a b m) G
   | _ => False
  | .lst l len esz => esz = size ∧ bndL ρ 0 lo fun a => bndL ρ len hi fun b => bndL ρ 0 (some mx) fun m => 0 < len ∧ a ≤ b ∧ b ≤ m ∧ m ≤ len ∧ K (.lst ((l.drop (a * esz)).take ((b - a) * esz)) (b - a) esz) G
  | _ => False
 | .fieldAddr off x => match x.ev ρ with
  | .ptr p i => K (.ptr p (i + off)) G
  | .dptr p k i => K (.dptr p k (i + off)) G
  | .cptr l i => K (.cptr l (i + off)) G
  | _ => False
 | .field g n off x => match x.ev ρ with
  | .agg l => match g with
   | true => off + n ≤ l.length ∧ K (.agg ((l.drop off).take n)) G
   | false => nthL l off fun v => K v G
  | _ => False
 | .ixAddr size x i => match i.ev ρ with
  | .i n => ixO G size (x.ev ρ) n fun v => K v G
  | .u n => ixO G size (x.ev ρ) (n.toNat : Int) fun v => K v G
  | _ => False
 | .ixStr x i => match x.ev ρ, i.ev ρ with
  | .str l, .i n => 0 ≤ n ∧ n < l.length ∧ K (.b (l.getD n.toNat 0)) G
  | .str l, .u n => n.toNat < l.length ∧ K (.b (l.getD n.toNat 0)) G
  | .str l, .b n => n.toNat < l.length ∧ K (.b (l.getD n.toNat 0)) G
  | _, _ => False
 | .extract i x => match x.ev ρ with
  | .tup l => nthL l i fun v => K v G
  | _ => False
 | .lenStr x => match x.ev ρ with
  | .str l => K (.i l.length) G
  | _ => False
 | .lenSl x => lenL G (x.ev ρ) fun n => K (.i n) G
 | .maxi mx x y => match x.ev ρ, y.ev ρ with
  | .i a, .i b => K (.i (match mx with | true => max a b | false => min a b)) G
  | .u a, .u b => K (.u (match mx with | true => if a < b then b else a | false => if b < a then b else a)) G
  | _, _ => False
 | .max3 mx x y z => match x.ev ρ with
  | .i a => match y.ev ρ with
   | .i b => match z.ev ρ with
    | .i d => K (.i (match mx with | true => max (max a b) d | false => min (min a b) d)) G
    | _ => False
   | _ => False
  | _ => False
 | .ixAddrArr len size x i => match i.ev ρ with
  | .i n => 0 ≤ n ∧ n < len ∧ match x.ev ρ with
   | .ptr p j => K (.ptr p (j + n.toNat * size)) G
   | .dptr p k j => K (.dptr p k (j + n.toNat * size)) G
   | .cptr l j => K (.cptr l (j + n.toNat * size)) G
   | _ => False
  | _ => False
 | .ixArr g len size x i => match i.ev ρ with
  | .i n => 0 ≤ n ∧ n < len ∧ match x.ev ρ with
   | .agg l => match g with
    | true => n.toNat * size + size ≤ l.length ∧ K (.agg ((l.drop (n.toNat * size)).take size)) G
    | false => nthL l (n.toNat * size) fun v => K v G
   | _ => False
  | _ => False
 | .lenArr n _ => K (.i n) G
 | .appZ size z s x => match x.ev ρ with
  | .i n => 0 ≤ n ∧ n ≤ 1048576 ∧ z.length = size ∧ appL G size (s.ev ρ) n.toNat (repL z n.toNat) K
  | _ => False
 | .appG size s x => rowL G size (x.ev ρ) fun n l => n ≤ 1048576 ∧ appL G size (s.ev ρ) n l K
 | .copy size d x => rowL G size (x.ev ρ) fun n l => match d.ev ρ with
  | .dy p k => match G[p]? with
   | some (.dyn r len esz ver st) => k = ver ∧ esz = size ∧ K (.i (min n len : Nat)) (G.set p (.dyn (layLV r 0 (l.take (min n len * size))) len esz ver (st + 1)))
   | _ => False
  | .vw p k lo len => match G[p]? with
   | some (.dyn r len0 esz ver st) => k = ver ∧ esz = size ∧ (lo + len) * size ≤ r.length ∧ K (.i (min n len : Nat)) (G.set p (.dyn (layLV r (lo * size) (l.take (min n len * size))) len0 esz ver (st + 1)))
   | _ => False
  | _ => False
 | .clear size z x => match x.ev ρ with
  | .vw p k lo len => match G[p]? with
   | some (.dyn r len0 esz ver st) => k = ver ∧ esz = size ∧ z.length = size ∧ (lo + len) * size ≤ r.length ∧ K .any (G.set p (.dyn (layLV r (lo * size) (repL z len)) len0 esz ver (st + 1)))
   | _ => False
  | _ => False
 | .mkMap0 => K (.map G.length) (G ++ [.map [] 0 0])
 | .mkMap1 x => match x.ev ρ with
  | .i _ => K (.map G.length) (G ++ [.map [] 0 0])
  | _ => False
 | .lookup d z ok x i => mapL G (x.ev ρ) fun es => findL d (i.ev ρ) (lookK z ok fun v => K v G) es
 | .mapUpd d m k v => updL' G d (m.ev ρ) (k.ev ρ) (v.ev ρ) fun G' => K .any G'
 | .lenMap x => mapL G (x.ev ρ) fun es => K (.i es.length) G
 | .slArr n size x lo hi => match x.ev ρ with
  | .ptr p i => match G[p]? with
   | some (.cells l st) => i + n * size ≤ l.length ∧ bndL ρ 0 lo fun a => bndL ρ n hi fun b => a ≤ b ∧ b ≤ n ∧ K (.lst ((l.drop (i + a * size)).take ((b - a) * size)) (b - a) size) (G.set p (.dead (st + 1)))
   | _ => False
  | _ => False
 | .callV f args => match f.ev ρ with
  | .fn (.func g) a b => CallL P (.fn g) (a ++ args.map (·.ev ρ) ++ b) G K
  | .fn (.yield p) [] _ => CallL P (.yield p) (args.map (·.ev ρ)) G K
  | _ => False
 | .mkIface t x => K (.iface t (x.ev ρ)) G
 | .assert z ok t x => asrtL z ok t (x.ev ρ) fun v => K v G
 | .clone f x => isClone P f = true ∧ clnL G (x.ev ρ) K
end Go.Sv
namespace Go.Sv
theorem getCells_mk {t : Tr AV} : ∀ {n i : Nat} {l : List AV}, l.length = n → (∀ j, j < n → getP (pathOf (i + j)) t = l[j]?) → getCells t i n = some l
 | 0, i, l, h, _ => by
  have : l = [] := List.eq_nil_of_length_eq_zero h
  subst this; rfl
 | n + 1, i, [], h, _ => by simp at h
 | n + 1, i, a :: l, h, k => by
  have h0 := k 0 (by omega)
  simp only [Nat.add_zero, List.getElem?_cons_zero] at h0
  have ih := getCells_mk (t := t) (n := n) (i := i + 1) (l := l) (by simpa using h) (fun j hj => by
   have := k (j + 1) (by omega)
   rw [List.getElem?_cons_succ] at this
   rw [← this, show i + 1 + j = i + (j + 1) from by omega])
  simp only [getCells, h0, ih]
theorem getCells_sub {t : Tr AV} {N i n : Nat} {l : List AV} (h : getCells t 0 N = some l) (hle : i + n ≤ N) : getCells t i n = some ((l.drop i).take n) := by
 obtain ⟨h1, h2⟩ := getCells_spec h
 refine getCells_mk (by simp; omega) (fun j hj => ?_)
 have := h2 (i + j) (by omega)
 rw [Nat.zero_add] at this
 rw [this, List.getElem?_take_of_lt hj, List.getElem?_drop]
theorem getCells_new (l : List AV) : getCells (ofListFrom l 0 .e) 0 l.length = some l :=
 getCells_mk rfl (fun j hj => by rw [get_ofList, if_pos (by omega)]; simp)
def layAV (l : List AV) (i : Nat) (r : List AV) : List AV := l.take i ++ r ++ l.drop (i + r.length)
theorem layAV_length {l r : List AV} {i : Nat} (h : i + r.length ≤ l.length) : (layAV l i r).length = l.length := by
 unfold layAV; simp; omega
theorem layAV_get {l r : List AV} {i : Nat} (h : i + r.length ≤ l.length) (j : Nat) : (layAV l i r)[j]? = if i ≤ j ∧ j < i + r.length then r[j - i]? else l[j]? := by
 have hi : (l.take i).length = i := by simp; omega
 unfold layAV
 by_cases h1 : j < i
 ·rw [if_neg (by omega), List.append_assoc, List.getElem?_append_left (by omega), List.getElem?_take_of_lt h1]
 ·by_cases h2 : j < i + r.length
  ·rw [if_pos (by omega), List.getElem?_append_left (by simp; omega), List.getElem?_append_right (by omega), hi]
  ·rw [if_neg (by omega), List.getElem?_append_right (by simp; omega), List.getElem?_drop]
   congr 1
   simp
   omega
theorem getCells_lay {t : Tr AV} {N i : Nat} {l r : List AV} (h : getCells t 0 N = some l) (hle : i + r.length ≤ N) : getCells (ofListFrom r i t) 0 N = some (layAV l i r) := by
 obtain ⟨h1, h2⟩ := getCells_spec h
 refine getCells_mk (by rw [layAV_length (by omega)]; exact h1) (fun j hj => ?_)
 have := h2 j hj
 rw [Nat.zero_add] at this ⊢
 rw [get_ofList, layAV_get (by omega), this]
theorem getCells_app {t : Tr AV} {N : Nat} {l r : List AV} (h : getCells t 0 N = some l) : getCells (ofListFrom r N t) 0 (N + r.length) = some (l ++ r) := by
 obtain ⟨h1, h2⟩ := getCells_spec h
 refine getCells_mk (by simp; omega) (fun j hj => ?_)
 rw [Nat.zero_add, get_ofList]
 by_cases hj' : N ≤ j
 ·rw [if_pos ⟨hj', by omega⟩, List.getElem?_append_right (by omega), h1]
 ·rw [if_neg (by omega), List.getElem?_append_left (by omega)]
  have := h2 j (by omega)
  rwa [Nat.zero_add] at this
theorem readAt_of {H : Heap} {o v i n N clen : Nat} {t : Tr AV} {ro : Bool} {l : List AV} (hg : H.get o = some (.cells t clen v ro)) (hc : getCells t 0 N = some l) (hN : N ≤ clen) (hle : i + n ≤ N) : readAt H o v i n = some ((l.drop i).take n) := by
 unfold readAt
 rw [hg]
 have hb : Nat.ble (Nat.add i n) clen = true := Nat.ble_eq_true_of_le (by show i + n ≤ clen; omega)
 simp only [Nat.beq_refl, hb]
 exact getCells_sub hc hle
theorem readAt_congr {H H' : Heap} {o : Nat} (h : H'.get o = H.get o) (v i n : Nat) : readAt H' o v i n = readAt H o v i n := by
 unfold readAt; rw [h]
theorem readAt_sub {H : Heap} {o v i n j m : Nat} {l : List AV} (h : readAt H o v i n = some l) (hle : j + m ≤ n) : readAt H o v (i + j) m = some ((l.drop j).take m) := by
 unfold readAt at h ⊢
 split at h
 ·rename_i t clen ver ro hg
  split at h
  ·rename_i hv
   split at h
   ·rename_i hb
    have hb' : i + n ≤ clen := Nat.le_of_ble_eq_true hb
    have hb2 : Nat.ble (Nat.add (i + j) m) clen = true := Nat.ble_eq_true_of_le (by show i + j + m ≤ clen; omega)
    simp only [hb2]
    obtain ⟨h1, h2⟩ := getCells_spec h
    refine getCells_mk (by simp; omega) (fun q hq => ?_)
    have := h2 (j + q) (by omega)
    rw [Nat.add_assoc, this, List.getElem?_take_of_lt hq, List.getElem?_drop]
   ·cases h
  ·cases h
 ·cases h
theorem readAt_length {H : Heap} {o v i n : Nat} {l : List AV} (h : readAt H o v i n = some l) : l.length = n := by
 unfold readAt at h
 split at h
 ·split at h
  ·split at h
   ·exact (getCells_spec h).1
   ·cases h
  ·cases h
 ·cases h
section lists
variable {c : Cx}
theorem ARs.length : ∀ {l : List LV} {r : List AV}, ARs c l r → l.length = r.length
 | _, _, .nil => rfl
 | _, _, .cons _ es => by simp [ARs.length es]
theorem ARs.get : ∀ {l : List LV} {r : List AV}, ARs c l r → ∀ {i : Nat} {v : LV}, l[i]? = some v → ∃ a, r[i]? = some a ∧ AR c v a
 | _, _, .nil, i, v, h => by simp at h
 | _, _, .cons e es, 0, v, h => by simp only [List.getElem?_cons_zero, Option.some.injEq] at h; subst h; exact ⟨_, rfl, e⟩
 | _, _, .cons e es, i + 1, v, h => by simp only [List.getElem?_cons_succ] at h ⊢; exact ARs.get es h
theorem ARs.append : ∀ {l : List LV} {r : List AV} {l' : List LV} {r' : List AV}, ARs c l r → ARs c l' r' → ARs c (l ++ l') (r ++ r')
 | _, _, _, _, .nil, k => k
 | _, _, _, _, .cons e es, k => .cons e (ARs.append es k)
theorem ARs.drop : ∀ {l : List LV} {r : List AV}, ARs c l r → ∀ n, ARs c (l.drop n) (r.drop n)
 | _, _, h, 0 => h
 | _, _, .nil, _ + 1 => .nil
 | _, _, .cons _ es, n + 1 => ARs.drop es n
theorem ARs.take : ∀ {l : List LV} {r : List AV}, ARs c l r → ∀ n, ARs c (l.take n) (r.take n)
 | _, _, _, 0 => .nil
 | _, _, .nil, _ + 1 => .nil
 | _, _, .cons e es, n + 1 => .cons e (ARs.take es n)
theorem ARs.lay {l r : List LV} {l' r' : List AV} (h : ARs c l l') (k : ARs c r r') (i : Nat) : ARs c (layLV l i r) (layAV l' i r') := by
 unfold layLV layAV
 rw [k.length]
 exact ((h.take i).append k).append (h.drop _)
theorem layLV_length {l r : List LV} {i : Nat} (h : i + r.length ≤ l.length) : (layLV l i r).length = l.length := by
 unfold layLV; simp; omega
theorem ARs.rep {z : List LV} {z' : List AV} (h : ARs c z z') : ∀ n, ARs c (repL z n) (repeatL z' n)
 | 0 => .nil
 | n + 1 => h.append (ARs.rep h n)
theorem repL_length (z : List LV) : ∀ n, (repL z n).length = n * z.length
 | 0 => by simp [repL]
 | n + 1 => by simp [repL, repL_length z n, Nat.add_mul]; omega
end lists
theorem scal_AR (c : Cx) {v : LV} (h : v.scal = true) : AR c v (toA v) := by
 cases v <;> first | (cases h; done) | (unfold toA; constructor)
theorem scals_AR (c : Cx) : ∀ {l : List LV}, l.all LV.scal = true → ARs c l (toAs l)
 | [], _ => by unfold toAs; exact .nil
 | v :: l, h => by
  simp only [List.all_cons, Bool.and_eq_true] at h
  unfold toAs
  exact .cons (scal_AR c h.1) (scals_AR c h.2)
theorem cst_AR (c : Cx) {v : LV} (h : v.cst = true) : AR c v (toA v) := by
 unfold LV.cst at h
 split at h
 ·unfold toA; exact .fn .nil .nil
 ·unfold toA; exact .agg (scals_AR c h)
 ·unfold toA toAs; exact .tup .nil
 ·exact scal_AR c h
theorem AR.cells {c : Cx} {v : LV} {a : AV} (h : AR c v a) {l : List LV} (hl : v.cells = some l) : ∃ l', a.cells = some l' ∧ ARs c l l' := by
 cases v with
 | any => cases hl
 | tup _ => cases hl
 | agg l0 => cases hl; cases h with | agg h => exact ⟨_, rfl, h⟩
 | dy p k =>
  simp only [LV.cells, Option.some.injEq] at hl
  subst hl
  have h0 := h
  refine ⟨[a], ?_, .cons h0 .nil⟩
  cases h with | dy _ _ _ hs => cases a <;> first | rfl | cases hs
 | vw p k lo len =>
  simp only [LV.cells, Option.some.injEq] at hl
  subst hl
  have h0 := h
  refine ⟨[a], ?_, .cons h0 .nil⟩
  cases h with | vw _ _ _ hs _ => cases a <;> first | rfl | cases hs
 | vf p k len =>
  simp only [LV.cells, Option.some.injEq] at hl
  subst hl
  have h0 := h
  refine ⟨[a], ?_, .cons h0 .nil⟩
  cases h with | vf _ _ _ hs => cases a <;> first | rfl | cases hs
 | _ =>
  simp only [LV.cells, Option.some.injEq] at hl
  subst hl
  have h0 := h
  refine ⟨[a], ?_, .cons h0 .nil⟩
  cases h <;> rfl
theorem CxLe.refl (c : Cx) : CxLe c c := ⟨fun _ k h e => ⟨k, h, e, Nat.le_refl _, fun _ => rfl, fun _ => rfl⟩, fun _ h => ⟨h, rfl⟩⟩
theorem CxLe.trans {a b c : Cx} (h : CxLe a b) (k : CxLe b c) : CxLe a c := by
 refine ⟨fun p v x e => ?_, fun o e => ?_⟩
 ·obtain ⟨v1, x1, e1, l1, s1, f1⟩ := h.hd p v x e
  obtain ⟨v2, x2, e2, l2, s2, f2⟩ := k.hd p v1 x1 e1
  refine ⟨v2, x2, e2, Nat.le_trans l1 l2, fun q => ?_, fun q => ?_⟩
  ·have q1 : v = v1 := by omega
   have q2 : v1 = v2 := by omega
   rw [s1 q1, s2 q2]
  ·have q1 := f1 q
   have := s1 q1
   subst this
   rw [q1, f2 q]
 ·obtain ⟨h1, h2⟩ := h.fz o e
  obtain ⟨h3, h4⟩ := k.fz o h1
  exact ⟨h3, h4.trans h2⟩
theorem CxLe.fix {c c' : Cx} (h : CxLe c c') {p k : Nat} {x : AV} (e : c.hd[p]? = some (k, x)) (hf : fixd x = true) : c'.hd[p]? = some (k, x) := by
 obtain ⟨k', x', e', _, s, f⟩ := h.hd p k x e
 have := f hf
 subst this
 rw [s rfl]; exact e'
mutual
theorem AR.mono {c c' : Cx} (h : CxLe c c') : ∀ {v : LV} {a : AV}, AR c v a → AR c' v a
 | _, _, .any a => .any a
 | _, _, .bool b => .bool b
 | _, _, .u x => .u x
 | _, _, .b x => .b x
 | _, _, .i n => .i n
 | _, _, .int k n => .int k n
 | _, _, .str l => .str l
 | _, _, .nilPtr => .nilPtr
 | _, _, .ptr e => .ptr (h.fix e rfl)
 | _, _, .dptr hp hk ha => by
  obtain ⟨k2, h2, e2, l2, s2, _⟩ := h.hd _ _ _ hp
  refine .dptr e2 (Nat.le_trans hk l2) (fun q => ?_)
  have q1 := ha (by omega)
  rw [← s2 (by omega)]
  exact q1
 | _, _, .cptr hf hr hl => .cptr (h.fz _ hf).1 (by rw [readAt_congr (h.fz _ hf).2]; exact hr) (ARs.mono h hl)
 | _, _, .nilSl => .nilSl
 | _, _, .dy hp hk ha hs => by
  obtain ⟨k2, h2, e2, l2, s2, _⟩ := h.hd _ _ _ hp
  refine .dy e2 (Nat.le_trans hk l2) (fun q => ?_) hs
  have q1 := ha (by omega)
  rw [← s2 (by omega)]
  exact q1
 | _, _, .vw hp hk ha hs hz => by
  obtain ⟨k2, h2, e2, l2, s2, _⟩ := h.hd _ _ _ hp
  refine .vw e2 (Nat.le_trans hk l2) (fun q => ?_) hs (fun q => ?_)
  ·have q1 := ha (by omega)
   rw [← s2 (by omega)]
   exact q1
  ·have q1 := hz (by omega)
   rw [← s2 (by omega)]
   exact q1
 | _, _, .vf hp hk ha hs => by
  obtain ⟨k2, h2, e2, l2, s2, _⟩ := h.hd _ _ _ hp
  refine .vf e2 (Nat.le_trans hk l2) (fun q => ?_) hs
  have q1 := ha (by omega)
  rw [← s2 (by omega)]
  exact q1
 | _, _, .lst hf hrm hlen hr hl => .lst (h.fz _ hf).1 hrm hlen (by rw [readAt_congr (h.fz _ hf).2]; exact hr) (ARs.mono h hl)
 | _, _, .lstNil => .lstNil
 | _, _, .lstEmp => .lstEmp
 | _, _, .nilMap => .nilMap
 | _, _, .map e => .map (h.fix e rfl)
 | _, _, .nilFn => .nilFn
 | _, _, .fn hl hr => .fn (ARs.mono h hl) (ARs.mono h hr)
 | _, _, .yield e => .yield (h.fix e rfl)
 | _, _, .nilIf => .nilIf
 | _, _, .iface e => .iface (AR.mono h e)
 | _, _, .agg e => .agg (ARs.mono h e)
 | _, _, .tup e => .tup (ARs.mono h e)
theorem ARs.mono {c c' : Cx} (h : CxLe c c') : ∀ {l : List LV} {r : List AV}, ARs c l r → ARs c' l r
 | _, _, .nil => .nil
 | _, _, .cons e es => .cons (AR.mono h e) (ARs.mono h es)
end
theorem MRs.mono {c c' : Cx} (h : CxLe c c') : ∀ {l : List (LV × LV × Nat)} {r : List (AV × AV × Nat)}, MRs c l r → MRs c' l r
 | _, _, .nil => .nil
 | _, _, .cons hk hv hs => .cons (hk.mono h) (hv.mono h) (MRs.mono h hs)
theorem EnvL.mono {c c' : Cx} (h : CxLe c c') {ρ : LEnv} {E : Tr AV} (k : EnvL c ρ E) : EnvL c' ρ E := fun t => (k t).mono h
theorem ObR.mono {c c' : Cx} (h : CxLe c c') {k : Nat} {x : AV} {ob : LObj} (hg : ∀ o, idOf x = some o → c'.H.get o = c.H.get o) (r : ObR c k x ob) : ObR c' k x ob := by
 cases ob with
 | dead st => trivial
 | cells l st =>
  obtain ⟨r0, o, t, l', rfl, r2, r3, r4⟩ := r
  exact ⟨r0, o, t, l', rfl, by rw [hg o rfl]; exact r2, r3, r4.mono h⟩
 | dyn l len esz ver st =>
  obtain ⟨r0, r1, r2⟩ := r
  refine ⟨r0, r1, ?_⟩
  rcases r2 with r2 | ⟨o, v, room, t, clen, l', rfl, r3, r4, r5, r6, r7⟩
  ·exact .inl r2
  ·exact .inr ⟨o, v, room, t, clen, l', rfl, by rw [hg o rfl]; exact r3, r4, r5, r6.mono h, r7⟩
 | map es ck st =>
  obtain ⟨r0, o, es', rfl, r2, r3⟩ := r
  exact ⟨r0, o, es', rfl, by rw [hg o rfl]; exact r2, r3.mono h⟩
 | iter l pos =>
  obtain ⟨r0, o, rfl, r2⟩ := r
  exact ⟨r0, o, rfl, by rw [hg o rfl]; exact r2⟩
 | loop s pend f n ρ ps a b d =>
  obtain ⟨r0, o, od, E, rfl, r2, r3, r4⟩ := r
  exact ⟨r0, o, od, E, rfl, h.fix r2 rfl, by rw [hg o rfl]; exact r3, r4.mono h⟩
 | defd op =>
  obtain ⟨r0, o, rfl, r2⟩ := r
  exact ⟨r0, o, rfl, by rw [hg o rfl]; exact r2⟩
theorem Step.refl (c : Cx) (G : LHeap) : Step c G c G := by
 refine ⟨.refl c, Nat.le_refl _, fun _ _ _ => rfl, fun _ h => .inl h, fun _ h => .inl h, fun p ob ob' e1 e2 => ?_, fun p ob ob' k h o e1 e2 _ _ _ _ => ?_⟩
 ·rw [e1] at e2; cases e2
  exact Nat.le_refl _
 ·rw [e1] at e2; cases e2
  exact ⟨rfl, rfl, rfl⟩
theorem Step.trans {c c1 c2 : Cx} {G G1 G2 : LHeap} (h0 : HSim c G) (h1 : HSim c1 G1) (s1 : Step c G c1 G1) (s2 : Step c1 G1 c2 G2) : Step c G c2 G2 := by
 have mid : ∀ p ob, G[p]? = some ob → ∃ ob1, G1[p]? = some ob1 := fun p ob e => by
  have hp : p < c.hd.length := by rw [h0.len]; exact (List.getElem?_eq_some_iff.1 e).1
  obtain ⟨k, h, e3⟩ : ∃ k h, c.hd[p]? = some (k, h) := ⟨_, _, List.getElem?_eq_getElem hp⟩
  obtain ⟨k1, x1, q1, _, _, _⟩ := s1.le.hd p k h e3
  have hp : p < G1.length := by rw [← h1.len]; exact (List.getElem?_eq_some_iff.1 q1).1
  exact ⟨_, List.getElem?_eq_getElem hp⟩
 refine ⟨s1.le.trans s2.le, Nat.le_trans s1.nx s2.nx, fun o ho hn => ?_, fun o ho => ?_, fun o ho => ?_, fun p ob ob2 e1 e2 => ?_, fun p ob ob2 k h o e1 e2 e3 e4 hl he => ?_⟩
 ·rw [s2.frame o (Nat.lt_of_lt_of_le ho s1.nx) (fun hc => ?_), s1.frame o ho hn]
  rcases s1.new o hc with h | h
  ·exact hn h
  ·omega
 ·rcases s2.new o ho with h | h
  ·exact s1.new o h
  ·exact .inr (Nat.le_trans s1.nx h)
 ·rcases s2.fznew o ho with h | h | h
  ·exact s1.fznew o h
  ·rcases s1.new o h with h | h
   ·exact .inr (.inl h)
   ·exact .inr (.inr h)
  ·exact .inr (.inr (Nat.le_trans s1.nx h))
 ·obtain ⟨ob1, q2⟩ := mid p ob e1
  exact Nat.le_trans (s1.mono p ob ob1 e1 q2) (s2.mono p ob1 ob2 q2 e2)
 ·obtain ⟨ob1, q2⟩ := mid p ob e1
  have m1 := s1.mono p ob ob1 e1 q2
  have m2 := s2.mono p ob1 ob2 q2 e2
  obtain ⟨rfl, r3, r4⟩ := s1.st p ob ob1 k h o e1 q2 e3 e4 hl (by omega)
  obtain ⟨rfl, r7, r8⟩ := s2.st p ob1 ob2 k h o q2 e2 (by rw [r4]; exact e3) e4 hl (by omega)
  rw [r7, r8, r3, r4]
  exact ⟨rfl, rfl, rfl⟩
theorem HSim.push {c : Cx} {G : LHeap} (hs : HSim c G) {H' : Heap} {x : AV} {ob : LObj} (hnx : c.H.next ≤ H'.next) (hfr : ∀ o, o < c.H.next → H'.get o = c.H.get o) (hid : ∀ o, idOf x = some o → c.H.next ≤ o ∧ o < H'.next)
  (hob : ObR ⟨c.hd ++ [(0, x)], c.Fz, H'⟩ 0 x ob) : HSim ⟨c.hd ++ [(0, x)], c.Fz, H'⟩ (G ++ [ob]) ∧ Step c G ⟨c.hd ++ [(0, x)], c.Fz, H'⟩ (G ++ [ob]) ∧ CxLe c ⟨c.hd ++ [(0, x)], c.Fz, H'⟩ := by
 have hhd : ∀ (p k : Nat) (h : AV), c.hd[p]? = some (k, h) → (c.hd ++ [(0, x)])[p]? = some (k, h) := fun p k h e => by
  rw [List.getElem?_append_left (List.getElem?_eq_some_iff.1 e).1]; exact e
 have hle : CxLe c ⟨c.hd ++ [(0, x)], c.Fz, H'⟩ := ⟨fun p k h e => ⟨k, h, hhd p k h e, Nat.le_refl _, fun _ => rfl, fun _ => rfl⟩, fun o ho => ⟨ho, hfr o (hs.fz o ho)⟩⟩
 have hinv : ∀ (p : Nat) (k : Nat) (h : AV) (ob' : LObj), (c.hd ++ [(0, x)])[p]? = some (k, h) → (G ++ [ob])[p]? = some ob' → (c.hd[p]? = some (k, h) ∧ G[p]? = some ob') ∨ (p = G.length ∧ k = 0 ∧ h = x ∧ ob' = ob) := by
  intro p k h ob' e1 e2
  by_cases hp : p < G.length
  ·rw [List.getElem?_append_left hp] at e2
   rw [List.getElem?_append_left (by rw [hs.len]; exact hp)] at e1
   exact .inl ⟨e1, e2⟩
  ·have hp' : p = G.length := by
    have := (List.getElem?_eq_some_iff.1 e2).1
    simp at this
    omega
   subst hp'
   rw [List.getElem?_concat_length] at e2
   rw [← hs.len, List.getElem?_concat_length] at e1
   cases e1; cases e2
   exact .inr ⟨rfl, rfl, rfl, rfl⟩
 have hown : ∀ o, Own ⟨c.hd ++ [(0, x)], c.Fz, H'⟩ (G ++ [ob]) o → Own c G o ∨ (c.H.next ≤ o ∧ o < H'.next) := by
  rintro o ⟨p, ob', k, h, e1, e2, e3, e4⟩
  rcases hinv p k h ob' e3 e1 with ⟨q1, q2⟩ | ⟨_, _, rfl, _⟩
  ·exact .inl ⟨p, ob', k, h, q2, e2, q1, e4⟩
  ·exact .inr (hid o e4)
 refine ⟨⟨by simp [hs.len], fun o ho => Nat.lt_of_lt_of_le (hs.fz o ho) hnx, fun o ho => ?_, fun o ho hf => ?_, fun p ob' k h e1 e2 => ?_, ?_⟩, ⟨hle, hnx, fun o ho _ => hfr o ho, fun o ho => ?_, fun o ho => .inl ho, fun p ob1 ob2 e1 e2 => ?_, fun p ob1 ob2 k h o e1 e2 e3 e4 hl _ => ?_⟩, hle⟩
 ·rcases hown o ho with h | h
  ·exact Nat.lt_of_lt_of_le (hs.lt o h) hnx
  ·exact h.2
 ·rcases hown o ho with h | h
  ·exact hs.sep o h hf
  ·have := hs.fz o hf; omega
 ·rcases hinv p k h ob' e2 e1 with ⟨q1, q2⟩ | ⟨_, rfl, rfl, rfl⟩
  ·by_cases hl : ob'.live = true
   ·exact (hs.obj p ob' k h q2 q1).mono hle (fun o ho => hfr o (hs.lt o ⟨p, ob', k, h, q2, hl, q1, ho⟩))
   ·cases ob' <;> first | exact absurd rfl hl | trivial
  ·exact hob
 ·intro p q ob1 ob2 k h k' h' o e1 e2 e3 e4 e5 e6 e7 e8
  rcases hinv p k h ob1 e5 e1 with ⟨q1, q2⟩ | ⟨r1, _, rfl, rfl⟩ <;> rcases hinv q k' h' ob2 e6 e2 with ⟨q3, q4⟩ | ⟨r2, _, rfl, rfl⟩
  ·exact hs.excl p q ob1 ob2 k h k' h' o q2 q4 e3 e4 q1 q3 e7 e8
  ·have := hs.lt o ⟨p, ob1, k, h, q2, e3, q1, e7⟩
   have := hid o e8; omega
  ·have := hs.lt o ⟨q, ob2, k', h', q4, e4, q3, e8⟩
   have := hid o e7; omega
  ·omega
 ·rcases hown o ho with h | h
  ·exact .inl h
  ·exact .inr h.1
 ·rw [List.getElem?_append_left (List.getElem?_eq_some_iff.1 e1).1, e1] at e2
  cases e2; exact Nat.le_refl _
 ·rw [List.getElem?_append_left (List.getElem?_eq_some_iff.1 e1).1, e1] at e2
  cases e2
  have hlive : ob1.live = true := by cases ob1 <;> first | rfl | cases hl
  exact ⟨rfl, hfr o (hs.lt o ⟨p, ob1, k, h, e1, hlive, e3, e4⟩), by rw [hhd p k h e3, e3]⟩
theorem HSim.upd {c : Cx} {G : LHeap} (hs : HSim c G) {p k k' : Nat} {x x' : AV} {ob ob' : LObj} {H' : Heap} (hG : G[p]? = some ob) (hl : ob.live = true) (hp : c.hd[p]? = some (k, x)) (hnx : c.H.next ≤ H'.next)
  (hfr : ∀ o, o < c.H.next → idOf x ≠ some o → H'.get o = c.H.get o) (hid : ∀ o, idOf x' = some o → (idOf x = some o ∨ c.H.next ≤ o) ∧ o < H'.next)
  (hk : k ≤ k') (hx : k = k' → x = x') (hf : fixd x = true → k = k') (hst : ob.st < ob'.st ∨ (ob.stp = false ∧ ob.st ≤ ob'.st))
  (hob : CxLe c ⟨c.hd.set p (k', x'), c.Fz, H'⟩ → ObR ⟨c.hd.set p (k', x'), c.Fz, H'⟩ k' x' ob') :
  HSim ⟨c.hd.set p (k', x'), c.Fz, H'⟩ (G.set p ob') ∧ Step c G ⟨c.hd.set p (k', x'), c.Fz, H'⟩ (G.set p ob') ∧ CxLe c ⟨c.hd.set p (k', x'), c.Fz, H'⟩ := by
 have hpl : p < c.hd.length := (List.getElem?_eq_some_iff.1 hp).1
 have hpg : p < G.length := (List.getElem?_eq_some_iff.1 hG).1
 have hownx : ∀ o, idOf x = some o → Own c G o := fun o ho => ⟨p, ob, k, x, hG, hl, hp, ho⟩
 have hle : CxLe c ⟨c.hd.set p (k', x'), c.Fz, H'⟩ := by
  refine ⟨fun q k1 h1 e => ?_, fun o ho => ⟨ho, hfr o (hs.fz o ho) (fun q => hs.sep o (hownx o q) ho)⟩⟩
  by_cases hq : q = p
  ·subst hq
   rw [hp] at e; cases e
   exact ⟨k', x', by dsimp only; rw [List.getElem?_set_self hpl], hk, hx, hf⟩
  ·exact ⟨k1, h1, by dsimp only; rw [List.getElem?_set_ne (Ne.symm hq)]; exact e, Nat.le_refl _, fun _ => rfl, fun _ => rfl⟩
 have hinv : ∀ (q : Nat) (k1 : Nat) (h1 : AV) (ob1 : LObj), (c.hd.set p (k', x'))[q]? = some (k1, h1) → (G.set p ob')[q]? = some ob1 → (q ≠ p ∧ c.hd[q]? = some (k1, h1) ∧ G[q]? = some ob1) ∨ (q = p ∧ k1 = k' ∧ h1 = x' ∧ ob1 = ob') := by
  intro q k1 h1 ob1 e1 e2
  by_cases hq : q = p
  ·subst hq
   rw [List.getElem?_set_self hpl] at e1
   rw [List.getElem?_set_self hpg] at e2
   cases e1; cases e2
   exact .inr ⟨rfl, rfl, rfl, rfl⟩
  ·rw [List.getElem?_set_ne (Ne.symm hq)] at e1 e2
   exact .inl ⟨hq, e1, e2⟩
 have hother : ∀ (q : Nat) (k1 : Nat) (h1 : AV) (ob1 : LObj) (o : Nat), q ≠ p → c.hd[q]? = some (k1, h1) → G[q]? = some ob1 → ob1.live = true → idOf h1 = some o → idOf x ≠ some o := by
  intro q k1 h1 ob1 o hq e1 e2 e3 e4 e5
  exact hq (hs.excl q p ob1 ob k1 h1 k x o e2 hG e3 hl e1 hp e4 e5)
 have hown : ∀ o, Own ⟨c.hd.set p (k', x'), c.Fz, H'⟩ (G.set p ob') o → (Own c G o ∧ o < c.H.next) ∨ (c.H.next ≤ o ∧ o < H'.next) := by
  rintro o ⟨q, ob1, k1, h1, e1, e2, e3, e4⟩
  rcases hinv q k1 h1 ob1 e3 e1 with ⟨_, q1, q2⟩ | ⟨_, _, rfl, _⟩
  ·have := (⟨q, ob1, k1, h1, q2, e2, q1, e4⟩ : Own c G o)
   exact .inl ⟨this, hs.lt o this⟩
  ·obtain ⟨q1, q2⟩ := hid o e4
   rcases q1 with q1 | q1
   ·exact .inl ⟨hownx o q1, hs.lt o (hownx o q1)⟩
   ·exact .inr ⟨q1, q2⟩
 refine ⟨⟨by simp [hs.len], fun o ho => Nat.lt_of_lt_of_le (hs.fz o ho) hnx, fun o ho => ?_, fun o ho hf => ?_, fun q ob1 k1 h1 e1 e2 => ?_, ?_⟩, ⟨hle, hnx, fun o ho hn => hfr o ho (fun q => hn (hownx o q)), fun o ho => ?_, fun o ho => .inl ho, fun q ob1 ob2 e1 e2 => ?_, fun q ob1 ob2 k1 h1 o e1 e2 e3 e4 hstp he => ?_⟩, hle⟩
 ·rcases hown o ho with h | h
  ·exact Nat.lt_of_lt_of_le h.2 hnx
  ·exact h.2
 ·rcases hown o ho with h | h
  ·exact hs.sep o h.1 hf
  ·have := hs.fz o hf; omega
 ·rcases hinv q k1 h1 ob1 e2 e1 with ⟨hq, q1, q2⟩ | ⟨_, rfl, rfl, rfl⟩
  ·by_cases hl1 : ob1.live = true
   ·refine (hs.obj q ob1 k1 h1 q2 q1).mono hle (fun o ho => hfr o (hs.lt o ⟨q, ob1, k1, h1, q2, hl1, q1, ho⟩) (hother q k1 h1 ob1 o hq q1 q2 hl1 ho))
   ·cases ob1 <;> first | exact absurd rfl hl1 | trivial
  ·exact hob hle
 ·intro q r ob1 ob2 k1 h1 k2 h2 o e1 e2 e3 e4 e5 e6 e7 e8
  rcases hinv q k1 h1 ob1 e5 e1 with ⟨r0, q1, q2⟩ | ⟨r1, _, rfl, rfl⟩ <;> rcases hinv r k2 h2 ob2 e6 e2 with ⟨r3, q3, q4⟩ | ⟨r2, _, rfl, rfl⟩
  ·exact hs.excl q r ob1 ob2 k1 h1 k2 h2 o q2 q4 e3 e4 q1 q3 e7 e8
  ·have h3 := hs.lt o ⟨q, ob1, k1, h1, q2, e3, q1, e7⟩
   rcases (hid o e8).1 with h | h
   ·exact absurd h (hother q k1 h1 ob1 o r0 q1 q2 e3 e7)
   ·omega
  ·have h3 := hs.lt o ⟨r, ob2, k2, h2, q4, e4, q3, e8⟩
   rcases (hid o e7).1 with h | h
   ·exact absurd h (hother r k2 h2 ob2 o r3 q3 q4 e4 e8)
   ·omega
  ·omega
 ·rcases hown o ho with h | h
  ·exact .inl h.1
  ·exact .inr h.1
 ·by_cases hq : q = p
  ·subst hq
   rw [List.getElem?_set_self hpg] at e2
   cases e2
   rw [hG] at e1; cases e1
   rcases hst with h | h
   ·exact Nat.le_of_lt h
   ·exact h.2
  ·rw [List.getElem?_set_ne (Ne.symm hq), e1] at e2
   cases e2; exact Nat.le_refl _
 ·by_cases hq : q = p
  ·subst hq
   rw [List.getElem?_set_self hpg] at e2
   cases e2
   rw [hG] at e1; cases e1
   rcases hst with h | h
   ·omega
   ·rw [h.1] at hstp; cases hstp
  ·rw [List.getElem?_set_ne (Ne.symm hq), e1] at e2
   cases e2
   have hl1 : ob1.live = true := by cases ob1 <;> first | rfl | cases hstp
   exact ⟨rfl, hfr o (hs.lt o ⟨q, ob1, k1, h1, e1, hl1, e3, e4⟩) (hother q k1 h1 ob1 o hq e3 e1 hl1 e4), by dsimp only; rw [List.getElem?_set_ne (Ne.symm hq)]⟩
end Go.Sv
namespace Go.Sv
theorem wrapA_u64 (n : Int) : wrapA .u64 n = n % 18446744073709551616 := by
 rw [wrapA_spec]; rfl
theorem wrapA_u8 (n : Int) : wrapA .u8 n = n % 256 := by
 rw [wrapA_spec]; rfl
theorem wrapA_i64 {n : Int} (h : inI n) : wrapA .i64 n = n := by
 rw [wrapA_spec]
 obtain ⟨h1, h2⟩ := h
 show (if (true && decide (n % 18446744073709551616 ≥ 9223372036854775808)) = true then n % 18446744073709551616 - 18446744073709551616 else n % 18446744073709551616) = n
 simp only [Bool.true_and, decide_eq_true_eq]
 split <;> omega
theorem eqI_dec (a b : Int) : eqI a b = decide (a = b) := by
 rw [eqI_spec, Bool.eq_iff_iff]; simp
theorem ltI_dec (a b : Int) : ltI a b = decide (a < b) := ltI_spec a b
theorem not_lt_dec (a b : Int) : (!(decide (b < a))) = decide (a ≤ b) := by
 rw [Bool.eq_iff_iff]; simp
theorem fullK_u64 (x : UInt64) : Nat.blt x.toNat (fullK .u64) = true := by
 have := x.toNat_lt
 unfold Nat.blt
 exact Nat.ble_eq_true_of_le (by show x.toNat + 1 ≤ 2 * 9223372036854775808; omega)
theorem fullK_u8 (x : UInt8) : Nat.blt x.toNat (fullK .u8) = true := by
 have := x.toNat_lt
 unfold Nat.blt
 exact Nat.ble_eq_true_of_le (by show x.toNat + 1 ≤ 2 * 128; omega)
variable {c : Cx} {K : LV → Prop}
theorem AR.u' {x : UInt64} {n : Int} (h : n = Int.ofNat x.toNat) : AR c (.u x) (.int .u64 n) := by subst h; exact .u x
theorem AR.b' {x : UInt8} {n : Int} (h : n = Int.ofNat x.toNat) : AR c (.b x) (.int .u8 n) := by subst h; exact .b x
theorem AR.bool' {x y : Bool} (h : y = x) : AR c (.bool x) (.bool y) := by subst h; exact .bool y
theorem dec_u_eq (a b : UInt64) : decide (Int.ofNat a.toNat = Int.ofNat b.toNat) = decide (a = b) := by
 rw [Bool.eq_iff_iff]; simp only [decide_eq_true_eq]
 constructor
 ·intro h; exact UInt64.toNat_inj.1 (Int.ofNat.inj h)
 ·intro h; rw [h]
theorem dec_u_lt (a b : UInt64) : decide (Int.ofNat a.toNat < Int.ofNat b.toNat) = decide (a < b) := by
 rw [Bool.eq_iff_iff]; simp only [decide_eq_true_eq, UInt64.lt_iff_toNat_lt]
 exact Int.ofNat_lt
theorem dec_u_le (a b : UInt64) : decide (Int.ofNat a.toNat ≤ Int.ofNat b.toNat) = decide (a ≤ b) := by
 rw [Bool.eq_iff_iff]; simp only [decide_eq_true_eq, UInt64.le_iff_toNat_le]
 exact Int.ofNat_le
theorem dec_b_eq (a b : UInt8) : decide (Int.ofNat a.toNat = Int.ofNat b.toNat) = decide (a = b) := by
 rw [Bool.eq_iff_iff]; simp only [decide_eq_true_eq]
 constructor
 ·intro h; exact UInt8.toNat_inj.1 (Int.ofNat.inj h)
 ·intro h; rw [h]
theorem dec_b_lt (a b : UInt8) : decide (Int.ofNat a.toNat < Int.ofNat b.toNat) = decide (a < b) := by
 rw [Bool.eq_iff_iff]; simp only [decide_eq_true_eq, UInt8.lt_iff_toNat_lt]
 exact Int.ofNat_lt
theorem dec_b_le (a b : UInt8) : decide (Int.ofNat a.toNat ≤ Int.ofNat b.toNat) = decide (a ≤ b) := by
 rw [Bool.eq_iff_iff]; simp only [decide_eq_true_eq, UInt8.le_iff_toNat_le]
 exact Int.ofNat_le
def VRes (c : Cx) (K : LV → Prop) (r : Option AV) : Prop := ∃ v a, r = some a ∧ AR c v a ∧ K v
theorem VRes.mk {v : LV} {a : AV} (h : AR c v a) (k : K v) : VRes c K (some a) := ⟨v, a, rfl, h, k⟩
theorem shl_u (a : UInt64) (s : Nat) : wrapA .u64 (.ofNat (Nat.mul a.toNat (Nat.pow 2 (minN s (IntKind.bits .u64))))) = Int.ofNat (shlU a s).toNat := by
 rw [wrapA_u64]
 have hm : minN s (IntKind.bits .u64) = min s 64 := by
  unfold minN
  by_cases h : s ≤ 64
  ·rw [show Nat.ble s (IntKind.bits .u64) = true from Nat.ble_eq_true_of_le h]; simp [Nat.min_eq_left h]
  ·have : Nat.ble s (IntKind.bits .u64) = false := by
    cases hb : Nat.ble s (IntKind.bits .u64) with
    | false => rfl
    | true => exact absurd (Nat.le_of_ble_eq_true hb) h
   rw [this]; simp only [IntKind.bits]; omega
 rw [hm]
 rw [shlU_eq, UInt64.toNat_ofNat']
 show (Int.ofNat (a.toNat * 2 ^ min s 64)) % 18446744073709551616 = Int.ofNat (a.toNat * 2 ^ s % 2 ^ 64)
 by_cases h : s ≤ 64
 ·rw [Nat.min_eq_left h]
  rfl
 ·rw [Nat.min_eq_right (by omega)]
  have e : 2 ^ s = 2 ^ 64 * 2 ^ (s - 64) := by rw [← Nat.pow_add]; congr 1; omega
  have : a.toNat * 2 ^ s % 2 ^ 64 = 0 := by
   rw [e, ← Nat.mul_assoc, Nat.mul_comm a.toNat, Nat.mul_assoc, Nat.mul_mod_right]
  rw [this]
  have h2 : a.toNat * 2 ^ 64 % 2 ^ 64 = 0 := Nat.mul_mod_left _ _
  show Int.ofNat (a.toNat * 2 ^ 64 % 2 ^ 64) = 0
  rw [h2]; rfl
theorem shr_u (a : UInt64) (s : Nat) : Int.ofNat (Nat.div a.toNat (Nat.pow 2 (minN s (IntKind.bits .u64)))) = Int.ofNat (shrU a s).toNat := by
 have hm : minN s (IntKind.bits .u64) = min s 64 := by
  unfold minN
  by_cases h : s ≤ 64
  ·rw [show Nat.ble s (IntKind.bits .u64) = true from Nat.ble_eq_true_of_le h]; simp [Nat.min_eq_left h]
  ·have : Nat.ble s (IntKind.bits .u64) = false := by
    cases hb : Nat.ble s (IntKind.bits .u64) with
    | false => rfl
    | true => exact absurd (Nat.le_of_ble_eq_true hb) h
   rw [this]; simp only [IntKind.bits]; omega
 rw [hm]
 rw [shrU_eq, UInt64.toNat_ofNat']
 have hlt := a.toNat_lt
 show Int.ofNat (a.toNat / 2 ^ min s 64) = Int.ofNat (a.toNat / 2 ^ s % 2 ^ 64)
 have h1 : a.toNat / 2 ^ s % 2 ^ 64 = a.toNat / 2 ^ s := Nat.mod_eq_of_lt (Nat.lt_of_le_of_lt (Nat.div_le_self _ _) hlt)
 rw [h1]
 by_cases h : s ≤ 64
 ·rw [Nat.min_eq_left h]
 ·rw [Nat.min_eq_right (by omega), Nat.div_eq_of_lt hlt]
  rw [Nat.div_eq_of_lt (Nat.lt_of_lt_of_le hlt (Nat.pow_le_pow_right (by omega) (by omega)))]
theorem uuL_ok {P : Program} {op : BinOp} {g : Bool} {t : TypeId} {a b : UInt64} (h : uuL op a b K) : VRes c K (binA P op g t (.int .u64 (Int.ofNat a.toNat)) (.int .u64 (Int.ofNat b.toNat))) := by
 have hk : kindEq .u64 .u64 = true := rfl
 have hla := a.toNat_lt
 have hlb := b.toNat_lt
 cases op <;> simp only [uuL, addU_eq, subU_eq, mulU_eq, divU_eq, modU_eq, andU_eq, orU_eq, xorU_eq, notU_eq] at h <;> simp only [binA, hk, arith, bitsA, shiftA, fullK_u64]
 case add => exact .mk (.u' (by rw [wrapA_u64, UInt64.toNat_add]; rfl)) h
 case sub =>
  refine .mk (.u' ?_) h
  rw [wrapA_u64, UInt64.toNat_sub]
  show (Int.ofNat a.toNat - Int.ofNat b.toNat) % _ = ((2 ^ 64 - b.toNat + a.toNat) % 2 ^ 64 : Nat)
  simp only [Int.ofNat_eq_natCast]
  omega
 case mul => exact .mk (.u' (by rw [wrapA_u64, UInt64.toNat_mul]; rfl)) h
 case quo =>
  obtain ⟨h1, h2⟩ := h
  have hz : isZ (Int.ofNat b.toNat) = false := by
   unfold isZ
   cases hb : Nat.beq b.toNat 0 with
   | false => exact hb
   | true => exact absurd (UInt64.toNat_inj.1 (Nat.eq_of_beq_eq_true hb)) h1
  simp only [hz]
  refine .mk (.u' ?_) h2
  rw [wrapA_u64, UInt64.toNat_div]
  show (Int.tdiv (Int.ofNat a.toNat) (Int.ofNat b.toNat)) % _ = Int.ofNat (a.toNat / b.toNat)
  have : Int.tdiv (Int.ofNat a.toNat) (Int.ofNat b.toNat) = Int.ofNat (a.toNat / b.toNat) := rfl
  rw [this]
  exact Int.emod_eq_of_lt (Int.natCast_nonneg _) (by have := Nat.div_le_self a.toNat b.toNat; simp only [Int.ofNat_eq_natCast]; omega)
 case rem =>
  obtain ⟨h1, h2⟩ := h
  have hz : isZ (Int.ofNat b.toNat) = false := by
   unfold isZ
   cases hb : Nat.beq b.toNat 0 with
   | false => exact hb
   | true => exact absurd (UInt64.toNat_inj.1 (Nat.eq_of_beq_eq_true hb)) h1
  simp only [hz]
  exact .mk (.u' (by rw [UInt64.toNat_mod]; rfl)) h2
 case and =>
  refine .mk (.u' ?_) h
  rw [wrapA_u64, UInt64.toNat_and]
  have : a.toNat &&& b.toNat < 2 ^ 64 := Nat.and_lt_two_pow _ hlb
  exact Int.emod_eq_of_lt (Int.natCast_nonneg _) (by show Int.ofNat (a.toNat &&& b.toNat) < _; simp only [Int.ofNat_eq_natCast]; omega)
 case or =>
  refine .mk (.u' ?_) h
  rw [wrapA_u64, UInt64.toNat_or]
  have : a.toNat ||| b.toNat < 2 ^ 64 := Nat.or_lt_two_pow hla hlb
  exact Int.emod_eq_of_lt (Int.natCast_nonneg _) (by show Int.ofNat (a.toNat ||| b.toNat) < _; simp only [Int.ofNat_eq_natCast]; omega)
 case xor =>
  refine .mk (.u' ?_) h
  rw [wrapA_u64, UInt64.toNat_xor]
  have : a.toNat ^^^ b.toNat < 2 ^ 64 := Nat.xor_lt_two_pow hla hlb
  exact Int.emod_eq_of_lt (Int.natCast_nonneg _) (by show Int.ofNat (a.toNat ^^^ b.toNat) < _; simp only [Int.ofNat_eq_natCast]; omega)
 case andNot =>
  refine .mk (.u' ?_) h
  have e : Nat.xor a.toNat (Nat.land a.toNat b.toNat) = (a &&& ~~~b).toNat := by
   show a.toNat ^^^ (a.toNat &&& b.toNat) = _
   rw [UInt64.toNat_and, UInt64.toNat_not]
   refine Nat.eq_of_testBit_eq fun i => ?_
   rw [Nat.testBit_xor, Nat.testBit_and, Nat.testBit_and]
   have : (UInt64.size - 1 - b.toNat).testBit i = (decide (i < 64) && !b.toNat.testBit i) := by
    have := Nat.testBit_two_pow_sub_succ hlb i
    rw [show UInt64.size - 1 - b.toNat = 2 ^ 64 - (b.toNat + 1) from by show 18446744073709551616 - 1 - b.toNat = _; omega, this]
   rw [this]
   by_cases hi : i < 64
   ·simp [hi]; cases a.toNat.testBit i <;> cases b.toNat.testBit i <;> rfl
   ·have : a.toNat.testBit i = false := Nat.testBit_lt_two_pow (Nat.lt_of_lt_of_le hla (Nat.pow_le_pow_right (by omega) (by omega)))
    simp [this]
  rw [e, wrapA_u64]
  exact Int.emod_eq_of_lt (Int.natCast_nonneg _) (by have := (a &&& ~~~b).toNat_lt; simp only [Int.ofNat_eq_natCast]; omega)
 case shl => exact .mk (.u' (shl_u a b.toNat)) h
 case shr => exact .mk (.u' (shr_u a b.toNat)) h
 case eql => exact .mk (.bool' (by rw [eqI_dec, dec_u_eq])) h
 case neq => exact .mk (.bool' (by rw [eqI_dec, dec_u_eq]; simp)) h
 case lss => exact .mk (.bool' (by rw [ltI_dec, dec_u_lt])) h
 case leq => exact .mk (.bool' (by rw [ltI_dec, not_lt_dec, dec_u_le])) h
 case gtr => exact .mk (.bool' (by rw [ltI_dec, dec_u_lt])) h
 case geq => exact .mk (.bool' (by rw [ltI_dec, not_lt_dec, dec_u_le])) h
theorem bbL_ok {P : Program} {op : BinOp} {g : Bool} {t : TypeId} {a b : UInt8} (h : bbL op a b K) : VRes c K (binA P op g t (.int .u8 (Int.ofNat a.toNat)) (.int .u8 (Int.ofNat b.toNat))) := by
 have hk : kindEq .u8 .u8 = true := rfl
 have hla := a.toNat_lt
 have hlb := b.toNat_lt
 cases op <;> simp only [bbL, addB_eq, subB_eq, andB_eq, orB_eq] at h <;> simp only [binA, hk, arith, bitsA, fullK_u8]
 case add => exact .mk (.b' (by rw [wrapA_u8, UInt8.toNat_add]; rfl)) h
 case sub =>
  refine .mk (.b' ?_) h
  rw [wrapA_u8, UInt8.toNat_sub]
  show (Int.ofNat a.toNat - Int.ofNat b.toNat) % _ = ((2 ^ 8 - b.toNat + a.toNat) % 2 ^ 8 : Nat)
  simp only [Int.ofNat_eq_natCast]
  omega
 case and =>
  refine .mk (.b' ?_) h
  rw [wrapA_u8, UInt8.toNat_and]
  have : a.toNat &&& b.toNat < 2 ^ 8 := Nat.and_lt_two_pow _ hlb
  exact Int.emod_eq_of_lt (Int.natCast_nonneg _) (by show Int.ofNat (a.toNat &&& b.toNat) < _; simp only [Int.ofNat_eq_natCast]; omega)
 case or =>
  refine .mk (.b' ?_) h
  rw [wrapA_u8, UInt8.toNat_or]
  have : a.toNat ||| b.toNat < 2 ^ 8 := Nat.or_lt_two_pow hla hlb
  exact Int.emod_eq_of_lt (Int.natCast_nonneg _) (by show Int.ofNat (a.toNat ||| b.toNat) < _; simp only [Int.ofNat_eq_natCast]; omega)
 case eql => exact .mk (.bool' (by rw [eqI_dec, dec_b_eq])) h
 case neq => exact .mk (.bool' (by rw [eqI_dec, dec_b_eq]; simp)) h
 case lss => exact .mk (.bool' (by rw [ltI_dec, dec_b_lt])) h
 case leq => exact .mk (.bool' (by rw [ltI_dec, not_lt_dec, dec_b_le])) h
 case gtr => exact .mk (.bool' (by rw [ltI_dec, dec_b_lt])) h
 case geq => exact .mk (.bool' (by rw [ltI_dec, not_lt_dec, dec_b_le])) h
theorem AR.i' {x n : Int} (h : n = x) : AR c (.i x) (.int .i64 n) := by subst h; exact .i n
theorem isZ_false {b : Int} (h : b ≠ 0) : isZ b = false := by
 unfold isZ
 split
 ·rename_i n
  cases hb : Nat.beq n 0 with
  | false => rfl
  | true => exact absurd (by rw [Nat.eq_of_beq_eq_true hb]; rfl) h
 ·rfl
theorem shift_i {P : Program} {g : Bool} {t : TypeId} {a : Int} {k : IntKind} {s : Int} (ha : 0 ≤ a) (h0 : 0 ≤ s) (h64 : s ≤ 64) :
  binA P .shl g t (.int .i64 a) (.int k s) = some (.int .i64 (wrapA .i64 (a * 2 ^ s.toNat))) ∧ binA P .shr g t (.int .i64 a) (.int k s) = some (.int .i64 (a / 2 ^ s.toNat)) := by
 obtain ⟨x, rfl⟩ := Int.eq_ofNat_of_zero_le ha
 obtain ⟨y, rfl⟩ := Int.eq_ofNat_of_zero_le h0
 have hm : minN y (IntKind.bits .i64) = y := by
  unfold minN
  rw [show Nat.ble y (IntKind.bits .i64) = true from Nat.ble_eq_true_of_le (by simp only [IntKind.bits]; omega)]
 constructor
 ·show some (AV.int .i64 (wrapA .i64 (.ofNat (Nat.mul x (Nat.pow 2 (minN y (IntKind.bits .i64))))))) = _
  rw [hm]
  congr 3
 ·show some (AV.int .i64 (.ofNat (Nat.div x (Nat.pow 2 (minN y (IntKind.bits .i64)))))) = _
  rw [hm]
  congr 2
theorem iiL_ok {P : Program} {op : BinOp} {g : Bool} {t : TypeId} {a b : Int} (h : iiL op a b K) : VRes c K (binA P op g t (.int .i64 a) (.int .i64 b)) := by
 have hk : kindEq .i64 .i64 = true := rfl
 cases op <;> simp only [iiL] at h
 case shl =>
  obtain ⟨h1, h2, h3, h4, h5⟩ := h
  rw [(shift_i h1 h2 h3).1, wrapA_i64 h4]
  exact .mk (.i _) h5
 case shr =>
  obtain ⟨h1, h2, h3, h5⟩ := h
  rw [(shift_i h1 h2 h3).2]
  exact .mk (.i _) h5
 all_goals simp only [binA, hk, arith]
 case and =>
  obtain ⟨h1, h2, h3, h4, h5⟩ := h
  obtain ⟨x, rfl⟩ := Int.eq_ofNat_of_zero_le h1
  obtain ⟨y, rfl⟩ := Int.eq_ofNat_of_zero_le h3
  have b1 : Nat.blt x (fullK .i64) = true := by unfold Nat.blt; exact Nat.ble_eq_true_of_le (by show x + 1 ≤ 2 * 9223372036854775808; omega)
  have b2 : Nat.blt y (fullK .i64) = true := by unfold Nat.blt; exact Nat.ble_eq_true_of_le (by show y + 1 ≤ 2 * 9223372036854775808; omega)
  have hx : x &&& y < 2 ^ 63 := Nat.and_lt_two_pow _ (by omega)
  show VRes c K (bitsA Nat.land .i64 (.ofNat x) (.ofNat y))
  simp only [bitsA, b1, b2]
  exact .mk (.i' (wrapA_i64 ⟨by simp only [Int.ofNat_eq_natCast]; omega, by simp only [Int.ofNat_eq_natCast]; exact Int.ofNat_lt.2 hx⟩)) h5
 case or =>
  obtain ⟨h1, h2, h3, h4, h5⟩ := h
  obtain ⟨x, rfl⟩ := Int.eq_ofNat_of_zero_le h1
  obtain ⟨y, rfl⟩ := Int.eq_ofNat_of_zero_le h3
  have b1 : Nat.blt x (fullK .i64) = true := by unfold Nat.blt; exact Nat.ble_eq_true_of_le (by show x + 1 ≤ 2 * 9223372036854775808; omega)
  have b2 : Nat.blt y (fullK .i64) = true := by unfold Nat.blt; exact Nat.ble_eq_true_of_le (by show y + 1 ≤ 2 * 9223372036854775808; omega)
  have hx : x ||| y < 2 ^ 63 := Nat.or_lt_two_pow (by omega) (by omega)
  show VRes c K (bitsA Nat.lor .i64 (.ofNat x) (.ofNat y))
  simp only [bitsA, b1, b2]
  exact .mk (.i' (wrapA_i64 ⟨by simp only [Int.ofNat_eq_natCast]; omega, by simp only [Int.ofNat_eq_natCast]; exact Int.ofNat_lt.2 hx⟩)) h5
 case add => exact .mk (.i' (wrapA_i64 h.1)) h.2
 case sub => exact .mk (.i' (wrapA_i64 h.1)) h.2
 case mul => exact .mk (.i' (wrapA_i64 h.1)) h.2
 case quo => rw [isZ_false h.1]; exact .mk (.i' (wrapA_i64 h.2.1)) h.2.2
 case rem => rw [isZ_false h.1]; exact .mk (.i _) h.2
 case eql => exact .mk (.bool' (by rw [eqI_dec])) h
 case neq => exact .mk (.bool' (by rw [eqI_dec]; simp)) h
 case lss => exact .mk (.bool' (by rw [ltI_dec])) h
 case leq => exact .mk (.bool' (by rw [ltI_dec, not_lt_dec])) h
 case gtr => exact .mk (.bool' (by rw [ltI_dec])) h
 case geq => exact .mk (.bool' (by rw [ltI_dec, not_lt_dec])) h
theorem kkL_ok {P : Program} {op : BinOp} {g : Bool} {t : TypeId} {k : IntKind} {a b : Int} (h : kkL op a b K) : VRes c K (binA P op g t (.int k a) (.int k b)) := by
 have hk : kindEq k k = true := by cases k <;> rfl
 cases op <;> simp only [kkL] at h <;> simp only [binA, hk, arith]
 case eql => exact .mk (.bool' (by rw [eqI_dec])) h
 case neq => exact .mk (.bool' (by rw [eqI_dec]; simp)) h
 case lss => exact .mk (.bool' (by rw [ltI_dec])) h
 case leq => exact .mk (.bool' (by rw [ltI_dec, not_lt_dec])) h
 case gtr => exact .mk (.bool' (by rw [ltI_dec])) h
 case geq => exact .mk (.bool' (by rw [ltI_dec, not_lt_dec])) h
theorem str_eq (a b : List UInt8) : (Nat.beq a.length b.length && Nat.beq (packL a) (packL b)) = decide (a = b) := by
 rw [Bool.eq_iff_iff]
 simp only [Bool.and_eq_true, decide_eq_true_eq]
 constructor
 ·rintro ⟨h1, h2⟩
  exact packL_inj (Nat.eq_of_beq_eq_true h1) (Nat.eq_of_beq_eq_true h2)
 ·intro h; subst h; simp
theorem AR.str' {l : List UInt8} {n m : Nat} (h1 : n = l.length) (h2 : m = packL l) : AR c (.str l) (.str n m) := by subst h1 h2; exact .str l
theorem ssL_ok {P : Program} {op : BinOp} {g : Bool} {t : TypeId} {a b : List UInt8} (h : ssL op a b K) : VRes c K (binA P op g t (.str a.length (packL a)) (.str b.length (packL b))) := by
 cases op <;> simp only [ssL] at h <;> simp only [binA, strOp]
 case add =>
  have hb : Nat.ble (Nat.add a.length b.length) lim = true := Nat.ble_eq_true_of_le h.1
  simp only [hb]
  refine .mk (.str' (by simp) ?_) h.2
  rw [packL_append]; rfl
 case eql => exact .mk (.bool' (str_eq a b)) h
 case neq => exact .mk (.bool' (by rw [str_eq]; simp)) h
theorem nilL_ok {P : Program} {op : BinOp} {g : Bool} {t : TypeId} {a b : AV} {r : Bool} (hb : binA P op g t a b = match op with | .eql => yesB (eqA P g t a b) | .neq => notB (eqA P g t a b) | _ => none) (h : nilL P op g t a b r K) : VRes c K (binA P op g t a b) := by
 rw [hb]
 cases op <;> simp only [nilL] at h
 case eql => rw [h.1]; exact .mk (.bool _) h.2
 case neq => rw [h.1]; exact .mk (.bool _) h.2
end Go.Sv
namespace Go.Sv
noncomputable def ρA (E : Tr AV) : Env := fun t => getP (pathOf t) E
theorem EnvR_ρA (E : Tr AV) : EnvR E (ρA E) := fun _ _ => rfl
theorem Lx_ok {c : Cx} {ρ : LEnv} {E : Tr AV} (hE : EnvL c ρ E) {x : Lx} (h : x.ok = true) : AR c (x.ev ρ) (x.r.ev (ρA E)) := by
 cases x with
 | t i => exact hE i
 | c v => exact cst_AR c h
theorem Lxs_ok {c : Cx} {ρ : LEnv} {E : Tr AV} (hE : EnvL c ρ E) : ∀ {l : List Lx}, l.all Lx.ok = true → ARs c (l.map (·.ev ρ)) ((rxs l).map (·.ev (ρA E)))
 | [], _ => .nil
 | x :: l, h => by
  simp only [List.all_cons, Bool.and_eq_true] at h
  exact .cons (Lx_ok hE h.1) (Lxs_ok hE h.2)
def optOk : Option Lx → Bool
 | none => true
 | some x => x.ok
def LOp.ok : LOp → Bool
 | .move x => x.ok
 | .pick c a b => c.ok && a.ok && b.ok
 | .alloc l => l.all LV.scal
 | .box x => x.ok
 | .build cs ps => cs.all LV.scal && ps.all (·.2.2.ok)
 | .buildSl _ _ cs ps => cs.all LV.scal && ps.all (·.2.2.ok)
 | .load1 x => x.ok
 | .loadN _ x => x.ok
 | .store _ x y => x.ok && y.ok
 | .nilChk x => x.ok
 | .bin _ _ _ x y => x.ok && y.ok
 | .un _ x => x.ok
 | .cvInt _ x => x.ok
 | .cvStr x => x.ok
 | .cvSame x => x.ok
 | .cvBytes x => x.ok
 | .mkFunc _ a b => a.all Lx.ok && b.all Lx.ok
 | .mkSl _ z l c => z.all LV.scal && l.ok && c.ok
 | .slStr x lo hi => x.ok && optOk lo && optOk hi
 | .slSl _ x lo hi => x.ok && optOk lo && optOk hi
 | .slSl3 _ x lo hi mx => x.ok && optOk lo && optOk hi && mx.ok
 | .fieldAddr _ x => x.ok
 | .field _ _ _ x => x.ok
 | .ixAddr _ x i => x.ok && i.ok
 | .ixStr x i => x.ok && i.ok
 | .extract _ x => x.ok
 | .lenStr x => x.ok
 | .lenSl x => x.ok
 | .maxi _ x y => x.ok && y.ok
 | .max3 _ x y z => x.ok && y.ok && z.ok
 | .ixAddrArr _ _ x i => x.ok && i.ok
 | .ixArr _ _ _ x i => x.ok && i.ok
 | .lenArr _ x => x.ok
 | .appZ _ z s x => z.all LV.scal && s.ok && x.ok
 | .appG _ s x => s.ok && x.ok
 | .copy _ d x => d.ok && x.ok
 | .clear _ z x => z.all LV.scal && x.ok
 | .mkMap0 => true
 | .mkMap1 x => x.ok
 | .lookup _ z _ x i => z.cst && x.ok && i.ok
 | .mapUpd _ m k v => m.ok && k.ok && v.ok
 | .lenMap x => x.ok
 | .slArr _ _ x lo hi => x.ok && optOk lo && optOk hi
 | .callV f args => f.ok && args.all Lx.ok
 | .mkIface _ x => x.ok
 | .assert z _ _ x => z.cst && x.ok
 | .clone _ x => x.ok
def OpRes (P : Program) (c : Cx) (G : LHeap) (K : LV → LHeap → Prop) : OR → Prop
 | .no => False
 | .val v1 H' => ∃ c' v G', c'.H = H' ∧ HSim c' G' ∧ Step c G c' G' ∧ AR c' v v1 ∧ K v G'
 | .call t1 args1 => ∃ t args, TgtR c t t1 ∧ ARs c args args1 ∧ CallL P t args G K
section res
variable {P : Program} {c : Cx} {G : LHeap} {K : LV → LHeap → Prop}
theorem OpRes.same (hs : HSim c G) {v : LV} {a : AV} (h : AR c v a) (k : K v G) : OpRes P c G K (.val a c.H) := ⟨c, v, G, rfl, hs, .refl c G, h, k⟩
theorem OpRes.ret (hs : HSim c G) {r : Option AV} (h : VRes c (fun v => K v G) r) : OpRes P c G K (ret1 c.H r) := by
 obtain ⟨v, a, rfl, h1, h2⟩ := h
 exact .same hs h1 h2
theorem newObj_ok (c : Cx) (l' : List AV) :
  ∃ H', newObj c.H l' = some (c.H.next, H') ∧ H'.next = c.H.next + 1 ∧ (∀ o, o < c.H.next → H'.get o = c.H.get o) ∧ H'.get c.H.next = some (.cells (ofListFrom l' 0 .e) l'.length 0 false) :=
 ⟨_, rfl, rfl, fun _ ho => Heap.get_push_ne _ _ ho, Heap.get_push_same _ _⟩
theorem newVarL_ok (hs : HSim c G) {l : List LV} {l' : List AV} (h : ARs c l l') (k : K (.ptr G.length 0) (G ++ [.cells l 0])) : OpRes P c G K (newVarA c.H l') := by
 obtain ⟨H', h1, h2, h3, h4⟩ := newObj_ok c l'
 unfold newVarA
 rw [h1]
 have hle : CxLe c ⟨c.hd ++ [(0, .ptr c.H.next 0 0)], c.Fz, H'⟩ := ⟨fun p k x e => ⟨k, x, by rw [List.getElem?_append_left (List.getElem?_eq_some_iff.1 e).1]; exact e, Nat.le_refl _, fun _ => rfl, fun _ => rfl⟩, fun o ho => ⟨ho, h3 o (hs.fz o ho)⟩⟩
 obtain ⟨q1, q2, _⟩ := hs.push (H' := H') (x := .ptr c.H.next 0 0) (ob := .cells l 0) (by omega) h3 (fun o e => by cases e; omega)
  ⟨rfl, c.H.next, _, l', rfl, by rw [h.length]; exact h4, by rw [h.length]; exact getCells_new l', h.mono hle⟩
 exact ⟨_, .ptr G.length 0, _, rfl, q1, q2, .ptr (by rw [← hs.len]; exact List.getElem?_concat_length), k⟩
theorem newSlL_ok (hs : HSim c G) {l : List LV} {l' : List AV} {len esz : Nat} {room : Option Nat} (h : ARs c l l') (hl : l.length = len * esz) (hr : ∀ r, room = some r → r = len) (k : K (.dy G.length 0) (G ++ [.dyn l len esz 0 0])) :
  OpRes P c G K (match newObj c.H l' with
   | some (o, H') => .val (.sl o 0 0 len esz room) H'
   | none => .no) := by
 obtain ⟨H', h1, h2, h3, h4⟩ := newObj_ok c l'
 rw [h1]
 have hle : CxLe c ⟨c.hd ++ [(0, .sl c.H.next 0 0 len esz room)], c.Fz, H'⟩ := ⟨fun p k x e => ⟨k, x, by rw [List.getElem?_append_left (List.getElem?_eq_some_iff.1 e).1]; exact e, Nat.le_refl _, fun _ => rfl, fun _ => rfl⟩, fun o ho => ⟨ho, h3 o (hs.fz o ho)⟩⟩
 have hll : l'.length = len * esz := by rw [← h.length]; exact hl
 obtain ⟨q1, q2, _⟩ := hs.push (H' := H') (x := .sl c.H.next 0 0 len esz room) (ob := .dyn l len esz 0 0) (by omega) h3 (fun o e => by cases e; omega)
  ⟨rfl, hl, .inr ⟨c.H.next, 0, room, _, l'.length, l', rfl, h4, by omega, by rw [← hll]; exact getCells_new l', h.mono hle, fun r e => by rw [hr r e]; exact ⟨hll, Nat.le_refl _⟩, fun _ => hll⟩⟩
 exact ⟨_, .dy G.length 0, _, rfl, q1, q2, .dy (h := .sl c.H.next 0 0 len esz room) (by rw [← hs.len]; exact List.getElem?_concat_length) (Nat.le_refl _) (fun _ => rfl) rfl, k⟩
theorem cells_at (hs : HSim c G) {p o st : Nat} {l : List LV} (hg : G[p]? = some (.cells l st)) (e : c.hd[p]? = some (0, .ptr o 0 0)) :
  ∃ t l', c.H.get o = some (.cells t l.length 0 false) ∧ getCells t 0 l.length = some l' ∧ ARs c l l' := by
 obtain ⟨_, o', t, l', he, r2, r3, r4⟩ := hs.obj p _ _ _ hg e
 injection he with he
 subst he
 exact ⟨t, l', r2, r3, r4⟩
theorem dyn_at (hs : HSim c G) {p k o v len len' esz esz' ver st : Nat} {room : Option Nat} {l : List LV} (hg : G[p]? = some (.dyn l len esz ver st)) (e : c.hd[p]? = some (k, .sl o v 0 len' esz' room)) :
  k = ver ∧ l.length = len * esz ∧ len' = len ∧ esz' = esz ∧ ∃ t clen l', c.H.get o = some (.cells t clen v false) ∧ len * esz ≤ clen ∧ getCells t 0 (len * esz) = some l' ∧ ARs c l l' ∧
   (∀ r, room = some r → clen = r * esz ∧ len ≤ r) ∧ (room = none → clen = len * esz) := by
 obtain ⟨r0, r1, r2⟩ := hs.obj p _ _ _ hg e
 rcases r2 with ⟨r2, _⟩ | ⟨o', v', room', t, clen, l', he, r3, r4, r5, r6, r7, r8⟩
 ·cases r2
 ·injection he with e1 e2 e3 e4 e5 e6
  subst e1 e2 e4 e5 e6
  exact ⟨r0, r1, rfl, rfl, t, clen, l', r3, r4, r5, r6, r7, r8⟩
theorem readL_ok (hs : HSim c G) {x : LV} {a : AV} {n : Nat} {K : List LV → Prop} (hx : AR c x a) (h : readL G x n K) : ∃ o v i l' l, a = .ptr o v i ∧ readAt c.H o v i n = some l' ∧ ARs c l l' ∧ K l := by
 unfold readL at h
 split at h
 ·rename_i p i
  split at h
  ·rename_i l st hg
   obtain ⟨h1, h2⟩ := h
   cases hx with
   | @ptr _ _ o e =>
    obtain ⟨t, l', r2, r3, r4⟩ := cells_at hs hg e
    exact ⟨o, 0, i, _, _, rfl, readAt_of r2 r3 (Nat.le_refl _) h1, (r4.drop i).take n, h2⟩
  ·exact h.elim
 ·rename_i p k i
  split at h
  ·rename_i l len esz ver st hg
   obtain ⟨hk0, h1, h2⟩ := h
   cases hx with
   | @dptr _ _ _ k' o v j hh e hk ha =>
    have hkv := (hs.obj p _ _ _ hg e).1
    obtain ⟨hj, len', esz', room', hhe⟩ := ha (by omega)
    subst hhe hj
    obtain ⟨_, r1, _, _, t, clen, l', r3, r4, r5, r6, _⟩ := dyn_at hs hg e
    exact ⟨o, v, j, _, _, rfl, readAt_of r3 r5 r4 (by omega), (r6.drop j).take n, h2⟩
  ·exact h.elim
 ·rename_i l i
  obtain ⟨h1, h2⟩ := h
  cases hx with
  | cptr hf hr hl => exact ⟨_, _, _, _, _, rfl, readAt_sub hr h1, (hl.drop i).take n, h2⟩
 ·exact h.elim
theorem read1_ok (hs : HSim c G) {x : LV} {a : AV} {K : LV → Prop} (hx : AR c x a) (h : read1 G x K) : ∃ o v i w b, a = .ptr o v i ∧ readAt c.H o v i 1 = some [b] ∧ AR c w b ∧ K w := by
 have one : ∀ {l : List LV} {i : Nat} {v : LV}, l[i]? = some v → i + 1 ≤ l.length ∧ (l.drop i).take 1 = [v] := fun {l i v} e => by
  obtain ⟨h1, h2⟩ := List.getElem?_eq_some_iff.1 e
  refine ⟨h1, ?_⟩
  rw [List.drop_eq_getElem_cons h1, h2]
  simp
 have key : readL G x 1 (fun l => ∃ v, l = [v] ∧ K v) := by
  unfold read1 at h
  unfold readL
  split at h
  ·split at h
   ·obtain ⟨v, h1, h2⟩ := h
    exact ⟨(one h1).1, v, (one h1).2, h2⟩
   ·exact h.elim
  ·split at h
   ·obtain ⟨h0, v, h1, h2⟩ := h
    exact ⟨h0, (one h1).1, v, (one h1).2, h2⟩
   ·exact h.elim
  ·obtain ⟨v, h1, h2⟩ := h
   exact ⟨(one h1).1, v, (one h1).2, h2⟩
  ·exact h.elim
 obtain ⟨o, v, i, l', l, q1, q2, q3, w, rfl, q4⟩ := readL_ok hs hx key
 cases q3 with
 | cons e es => cases es; exact ⟨o, v, i, w, _, q1, q2, e, q4⟩
theorem writeAt_of {H : Heap} {o v i N clen : Nat} {t : Tr AV} {l r : List AV} (hg : H.get o = some (.cells t clen v false)) (_ : getCells t 0 N = some l) (hN : N ≤ clen) (hle : i + r.length ≤ N) :
  writeAt H o v i r = some (H.put o (.cells (ofListFrom r i t) clen v false)) := by
 unfold writeAt
 rw [hg]
 have hb : Nat.ble (Nat.add i r.length) clen = true := Nat.ble_eq_true_of_le (by show i + r.length ≤ clen; omega)
 simp only [Nat.beq_refl, hb]
theorem writeL_ok (hs : HSim c G) {x : LV} {a : AV} {l : List LV} {l' : List AV} {K : LHeap → Prop} (hx : AR c x a) (hl : ARs c l l') (h : writeL G x l K) :
  ∃ o v i H' c' G', a = .ptr o v i ∧ writeAt c.H o v i l' = some H' ∧ c'.H = H' ∧ HSim c' G' ∧ Step c G c' G' ∧ K G' := by
 have hlen := hl.length
 unfold writeL at h
 split at h
 ·rename_i p i
  split at h
  ·rename_i l0 st hg
   obtain ⟨h1, h2⟩ := h
   cases hx with
   | @ptr _ _ o e =>
    obtain ⟨t, l0', r2, r3, r4⟩ := cells_at hs hg e
    have hw := writeAt_of (i := i) (r := l') r2 r3 (Nat.le_refl _) (by omega)
    obtain ⟨q1, q2, _⟩ := hs.upd (k' := 0) (x' := .ptr o 0 0) (ob' := .cells (layLV l0 i l) (st + 1)) (H' := c.H.put o (.cells (ofListFrom l' i t) l0.length 0 false)) hg rfl e (Nat.le_refl _)
     (fun o' _ hne => Heap.get_put_ne _ _ (fun q => hne (by rw [q]; rfl))) (fun o' e' => by cases e'; exact ⟨.inl rfl, hs.lt o ⟨p, _, _, _, hg, rfl, e, rfl⟩⟩) (Nat.le_refl _) (fun _ => rfl) (fun _ => rfl) (.inl (Nat.lt_succ_self _))
     (fun hle => ⟨rfl, o, _, layAV l0' i l', rfl, by rw [layLV_length h1]; exact Heap.get_put_same _ _ _, by rw [layLV_length h1]; exact getCells_lay r3 (by omega), (r4.lay hl i).mono hle⟩)
    exact ⟨o, 0, i, _, _, _, rfl, hw, rfl, q1, q2, h2⟩
  ·exact h.elim
 ·rename_i p k i
  split at h
  ·rename_i l0 len esz ver st hg
   obtain ⟨hk0, h1, h2⟩ := h
   cases hx with
   | @dptr _ _ _ k' o v j hh e hk ha =>
    have hkv := (hs.obj p _ _ _ hg e).1
    obtain ⟨hj, len', esz', room, hhe⟩ := ha (by omega)
    subst hhe hj
    obtain ⟨hk2, r1, hl2, he2, t, clen, l0', r3, r4, r5, r6, r7, r8⟩ := dyn_at hs hg e
    subst hl2 he2
    have hw := writeAt_of (i := j) (r := l') r3 r5 r4 (by omega)
    obtain ⟨q1, q2, _⟩ := hs.upd (k' := k') (x' := .sl o v 0 len' esz' room) (ob' := .dyn (layLV l0 j l) len' esz' ver (st + 1)) (H' := c.H.put o (.cells (ofListFrom l' j t) clen v false)) hg rfl e (Nat.le_refl _)
     (fun o' _ hne => Heap.get_put_ne _ _ (fun q => hne (by rw [q]; rfl))) (fun o' e' => by cases e'; exact ⟨.inl rfl, hs.lt _ ⟨p, _, _, _, hg, rfl, e, rfl⟩⟩) (Nat.le_refl _) (fun _ => rfl) (fun _ => rfl) (.inl (Nat.lt_succ_self _))
     (fun hle => ⟨hk2, by rw [layLV_length h1]; exact r1, .inr ⟨o, v, room, _, clen, layAV l0' j l', rfl, Heap.get_put_same _ _ _, r4, getCells_lay r5 (by omega), (r6.lay hl j).mono hle, r7, r8⟩⟩)
    exact ⟨o, v, j, _, _, _, rfl, hw, rfl, q1, q2, h2⟩
  ·exact h.elim
 ·exact h.elim
theorem lenL_ok (hs : HSim c G) {x : LV} {a : AV} {K : Nat → Prop} (hx : AR c x a) (h : lenL G x K) : ∃ n, K n ∧ (a = .nilSl ∧ n = 0 ∨ a = .emp ∧ n = 0 ∨ ∃ o v i esz room, a = .sl o v i n esz room) := by
 unfold lenL at h
 split at h
 ·cases hx; exact ⟨0, h, .inl ⟨rfl, rfl⟩⟩
 ·rename_i p k
  split at h
  ·rename_i l len esz ver st hg
   obtain ⟨hk0, h⟩ := h
   cases hx with
   | @dy _ _ k' hh _ e hk ha _ =>
    obtain ⟨r0, r1, r2⟩ := hs.obj p _ _ _ hg e
    have hha := ha (by omega)
    rcases r2 with ⟨r2, r3⟩ | ⟨o, v, room, t, clen, l', r2, _⟩
    ·exact ⟨len, h, .inl ⟨hha.trans r2, r3⟩⟩
    ·exact ⟨len, h, .inr (.inr ⟨_, _, _, _, _, hha.trans r2⟩)⟩
  ·exact h.elim
 ·rename_i p k lo len
  split at h
  ·rename_i l len0 esz ver st hg
   obtain ⟨hk0, h⟩ := h
   cases hx with
   | @vw _ _ _ _ k' hh _ e hk ha _ _ =>
    obtain ⟨r0, r1, r2⟩ := hs.obj p _ _ _ hg e
    rcases ha (by omega) with ⟨r3, r4 | r4⟩ | ⟨o, v, len', esz', room, room', _, r4, _⟩
    ·exact ⟨len, h, .inl ⟨r4, r3⟩⟩
    ·exact ⟨len, h, .inr (.inl ⟨r4.1, r3⟩)⟩
    ·exact ⟨len, h, .inr (.inr ⟨_, _, _, _, _, r4⟩)⟩
  ·exact h.elim
 ·cases hx with
  | lst => exact ⟨_, h, .inr (.inr ⟨_, _, _, _, _, rfl⟩)⟩
  | lstNil => exact ⟨0, h, .inl ⟨rfl, rfl⟩⟩
  | lstEmp => exact ⟨0, h, .inr (.inl ⟨rfl, rfl⟩)⟩
 ·exact h.elim
theorem unpack_u8 (l : List UInt8) (c : Cx) : ARs c (l.map LV.b) ((unpackL l.length (packL l)).map fun (b : Nat) => AV.int .u8 (Int.ofNat b)) := by
 rw [unpack_pack]
 induction l with
 | nil => exact .nil
 | cons b l ih => exact .cons (.b b) ih
theorem rowL_ok (hs : HSim c G) {x : LV} {a : AV} {size : Nat} {K : Nat → List LV → Prop} (hx : AR c x a) (h : rowL G size x K) : ∃ n l l', takeA c.H size a = some (n, l') ∧ ARs c l l' ∧ l.length = n * size ∧ K n l := by
 have hsz : Nat.beq size size = true := Nat.beq_refl _
 unfold rowL at h
 split at h
 ·cases hx; exact ⟨0, [], [], rfl, .nil, by simp, h⟩
 ·rename_i p k
  split at h
  ·rename_i l len esz ver st hg
   obtain ⟨hk0, rfl, h⟩ := h
   cases hx with
   | @dy _ _ k' hh _ e hk ha _ =>
    obtain ⟨r0, r1, r2⟩ := hs.obj p _ _ _ hg e
    have hha := ha (by omega)
    rcases r2 with ⟨r2, r3⟩ | ⟨o, v, room, t, clen, l', r2, r3, r4, r5, r6, _⟩
    ·subst r3
     have : l = [] := List.eq_nil_of_length_eq_zero (by simpa using r1)
     subst this
     exact ⟨0, [], [], by rw [hha, r2]; rfl, .nil, by simp, h⟩
    ·refine ⟨len, l, l', ?_, r6, r1, h⟩
     have hr := readAt_of (i := 0) (n := len * esz) r3 r5 r4 (by omega)
     have hl' : l'.length = len * esz := by rw [← r6.length]; exact r1
     rw [hha, r2]
     simp only [takeA, hsz]
     rw [show Nat.mul len esz = len * esz from rfl, hr]
     simp [List.take_of_length_le, hl']
  ·exact h.elim
 ·rename_i p k lo len
  split at h
  ·rename_i l len0 esz ver st hg
   obtain ⟨hk0, rfl, h1, h⟩ := h
   cases hx with
   | @vw _ _ _ _ k' hh _ e hk ha _ _ =>
    have hkv := (hs.obj p _ _ _ hg e).1
    rcases ha (by omega) with ⟨r3, r4⟩ | ⟨o, v, len', esz', room, room', r3, r4, _⟩
    ·subst r3
     refine ⟨0, _, [], ?_, by simpa using (ARs.nil (c := c)), by simp, h⟩
     rcases r4 with rfl | ⟨rfl, _⟩ <;> rfl
    ·subst r3
     obtain ⟨_, q1, q2, q3, t, clen, l', q4, q5, q6, q7, _⟩ := dyn_at hs hg e
     subst q2 q3
     have hr := readAt_of (i := lo * esz') (n := len * esz') q4 q6 q5 (by omega)
     refine ⟨len, _, _, ?_, (q7.drop (lo * esz')).take (len * esz'), by simp; omega, h⟩
     rw [r4]
     simp only [takeA, hsz]
     rw [show Nat.mul len esz' = len * esz' from rfl, hr]
  ·exact h.elim
 ·rename_i l len esz
  obtain ⟨rfl, h⟩ := h
  cases hx with
  | lst hf hrm hlen hr hl =>
   refine ⟨len, l, _, ?_, hl, hlen, h⟩
   simp only [takeA, hsz]
   rw [show Nat.mul len esz = len * esz from rfl, hr]
  | lstNil => exact ⟨0, [], [], rfl, .nil, by simp, h⟩
  | lstEmp => exact ⟨0, [], [], rfl, .nil, by simp, h⟩
 ·rename_i l
  obtain ⟨rfl, h⟩ := h
  cases hx
  refine ⟨l.length, _, _, ?_, unpack_u8 l c, by simp, h⟩
  simp [takeA]
 ·exact h.elim
end res
end Go.Sv
namespace Go.Sv
section res
variable {P : Program} {c : Cx} {G : LHeap} {K : LV → LHeap → Prop}
theorem pushNil_ok (hs : HSim c G) {size : Nat} (k : K (.dy G.length 0) (G ++ [.dyn [] 0 size 0 0])) : OpRes P c G K (.val .nilSl c.H) := by
 obtain ⟨q1, q2, _⟩ := hs.push (H' := c.H) (x := .nilSl) (ob := .dyn [] 0 size 0 0) (Nat.le_refl _) (fun _ _ => rfl) (fun o e => by cases e) ⟨rfl, by simp, .inl ⟨rfl, rfl⟩⟩
 exact ⟨⟨c.hd ++ [(0, .nilSl)], c.Fz, c.H⟩, .dy G.length 0, _, rfl, q1, q2, .dy (h := .nilSl) (by rw [← hs.len]; exact List.getElem?_concat_length) (Nat.le_refl _) (fun _ => rfl) rfl, k⟩
theorem appDy_ok (hs : HSim c G) {p k : Nat} {a : AV} {size n : Nat} {new : List LV} {new' : List AV} (ha : AR c (.dy p k) a) (hn : ARs c new new') (hl : new.length = n * size) (h : appL G size (.dy p k) n new K) : OpRes P c G K (appendA c.H size a n new') := by
 have hnl := hn.length
 unfold appL at h
 dsimp only at h
 split at h
 ·rename_i l len esz ver st hg
  obtain ⟨hk0, ⟨rfl, hpos⟩, hlim, h⟩ := h
  have hpg : p < c.hd.length := by rw [hs.len]; exact (List.getElem?_eq_some_iff.1 hg).1
  cases ha with
  | @dy _ _ k' hh _ e hk haa hsl =>
   obtain ⟨r0, r1, r2⟩ := hs.obj p _ _ _ hg e
   have hha := haa (by omega)
   have fin : ∀ {H' : Heap} {x' : AV}, c.H.next ≤ H'.next → (∀ o, o < c.H.next → idOf hh ≠ some o → H'.get o = c.H.get o) → (∀ o, idOf x' = some o → (idOf hh = some o ∨ c.H.next ≤ o) ∧ o < H'.next) → slish x' = true → fixd hh = false →
     (CxLe c ⟨c.hd.set p (k' + 1, x'), c.Fz, H'⟩ → ObR ⟨c.hd.set p (k' + 1, x'), c.Fz, H'⟩ (k' + 1) x' (.dyn (l ++ new) (len + n) esz (ver + 1) (st + 1))) → OpRes P c G K (.val x' H') := by
    intro H' x' h1 h2 h3 h4 h5 h6
    obtain ⟨q1, q2, _⟩ := hs.upd (k' := k' + 1) (x' := x') (ob' := .dyn (l ++ new) (len + n) esz (ver + 1) (st + 1)) (H' := H') hg rfl e h1 h2 h3 (Nat.le_succ _) (fun q => by omega) (fun q => by rw [h5] at q; cases q) (.inl (Nat.lt_succ_self _)) h6
    exact ⟨_, .dy p (ver + 1), _, rfl, q1, q2, .dy (k' := k' + 1) (h := x') (by dsimp only; rw [List.getElem?_set_self hpg]) (by omega) (fun _ => rfl) h4, h⟩
   have hcnt : (l ++ new).length = (len + n) * esz := by rw [List.length_append, r1, hl, Nat.add_mul]
   unfold appendA
   cases hb : Nat.beq n 0 with
   | true =>
    have hn0 := Nat.eq_of_beq_eq_true hb
    subst hn0
    have hnew : new = [] := List.eq_nil_of_length_eq_zero (by simpa using hl)
    subst hnew
    have hfix : fixd hh = false := by
     rcases r2 with ⟨r2, _⟩ | ⟨o, v, room, t, clen, l', r2, _⟩ <;> rw [r2] <;> rfl
    have hsh : slish hh = true := by rw [← hha]; exact hsl
    have key : OpRes P c G K (.val hh c.H) := by
     refine fin (Nat.le_refl _) (fun _ _ _ => rfl) (fun o e' => ⟨.inl e', hs.lt o ⟨p, _, _, _, hg, rfl, e, e'⟩⟩) hsh hfix (fun hle => ⟨by omega, hcnt, ?_⟩)
     simp only [List.append_nil, Nat.add_zero]
     rcases r2 with ⟨r2, r3⟩ | ⟨o, v, room, t, clen, l', r2, r3, r4, r5, r6, r7, r8⟩
     ·exact .inl ⟨r2, r3⟩
     ·exact .inr ⟨o, v, room, t, clen, l', r2, r3, r4, r5, r6.mono hle, r7, r8⟩
    rw [hha]
    rcases r2 with ⟨r2, r3⟩ | ⟨o, v, room, t, clen, l', r2, r3, r4, r5, r6, r7, r8⟩
    ·rw [r2] at key ⊢; exact key
    ·rw [r2] at key ⊢; exact key
   | false =>
    have hn0 : n ≠ 0 := fun q => by rw [q] at hb; cases hb
    rw [hha]
    rcases r2 with ⟨r2, r3⟩ | ⟨o, v, room, t, clen, l', r2, r3, r4, r5, r6, r7, r8⟩
    ·-- nil so far
     subst r3
     have hlnil : l = [] := List.eq_nil_of_length_eq_zero (by simpa using r1)
     subst hlnil
     rw [r2]
     dsimp only [growA]
     obtain ⟨H', h1, h2, h3, h4⟩ := newObj_ok c new'
     rw [h1]
     dsimp only
     refine fin (by omega) (fun o ho _ => h3 o ho) (fun o e' => by cases e'; exact ⟨.inr (Nat.le_refl _), by omega⟩) rfl (by rw [r2]; rfl) (fun hle => ⟨by omega, hcnt, .inr ⟨c.H.next, 0, none, _, new'.length, new', ?_, h4, ?_, ?_, hn.mono hle, fun r q => (by cases q), fun _ => ?_⟩⟩)
     ·simp
     ·rw [Nat.zero_add]; omega
     ·rw [Nat.zero_add, ← hl, hnl]; exact getCells_new new'
     ·rw [Nat.zero_add]; omega
    ·have hlt : o < c.H.next := hs.lt o ⟨p, _, _, _, hg, rfl, e, by rw [r2]; rfl⟩
     have hl' : l'.length = len * esz := by rw [← r6.length]; exact r1
     rw [r2]
     have hbe : (Nat.beq esz esz && Nat.ble len lim) = true := by rw [Nat.beq_refl, show Nat.ble len lim = true from Nat.ble_eq_true_of_le hlim]; rfl
     dsimp only
     rw [hbe]
     dsimp only
     have hid : idOf hh = some o := by rw [r2]; rfl
     have hfx : fixd hh = false := by rw [r2]; rfl
     have happ : getCells (ofListFrom new' (len * esz) t) 0 ((len + n) * esz) = some (l' ++ new') := by
      have := getCells_app (r := new') r5
      rwa [show len * esz + new'.length = (len + n) * esz from by rw [← hnl, hl, Nat.add_mul]] at this
     cases room with
     | some r =>
      obtain ⟨hcl, hlr⟩ := r7 r rfl
      dsimp only
      cases hfit : Nat.ble (Nat.add len n) r with
      | true =>
       have hfit' : len + n ≤ r := Nat.le_of_ble_eq_true hfit
       have hm : (len + n) * esz ≤ r * esz := Nat.mul_le_mul_right _ hfit'
       have hm2 : (len + n) * esz = len * esz + n * esz := Nat.add_mul _ _ _
       have hw : writeAt c.H o v (Nat.add 0 (Nat.mul len esz)) new' = some (c.H.put o (.cells (ofListFrom new' (len * esz) t) clen v false)) := by
        unfold writeAt
        rw [r3]
        have e1 : Nat.add 0 (Nat.mul len esz) = len * esz := Nat.zero_add _
        have hble : Nat.ble (Nat.add (len * esz) new'.length) clen = true := Nat.ble_eq_true_of_le (by show len * esz + new'.length ≤ clen; omega)
        rw [e1]
        simp only [Nat.beq_refl, hble]
       dsimp only
       rw [hw]
       dsimp only
       refine fin (by exact Nat.le_refl _) (fun o' _ hne => Heap.get_put_ne _ _ (fun q => hne (by rw [q]; exact hid))) (fun o' e' => by cases e'; exact ⟨.inl hid, hlt⟩) rfl hfx (fun hle => ⟨by omega, hcnt, .inr ⟨o, v, some r, _, clen, _, rfl, Heap.get_put_same _ _ _, by omega, happ, (r6.append hn).mono hle, fun r' q => by cases q; exact ⟨hcl, hfit'⟩, fun q => by cases q⟩⟩)
      | false =>
       have hr := readAt_of (i := 0) (n := len * esz) r3 r5 r4 (by omega)
       dsimp only
       rw [show Nat.mul len esz = len * esz from rfl, hr]
       dsimp only [growA]
       obtain ⟨H', h1, h2, h3, h4⟩ := newObj_ok c ((l'.drop 0).take (len * esz) ++ new')
       rw [h1]
       dsimp only
       have heq : (l'.drop 0).take (len * esz) = l' := by rw [List.drop_zero, List.take_of_length_le (by omega)]
       rw [heq] at h4
       have hsz : (l' ++ new').length = (len + n) * esz := by rw [List.length_append, hl', ← hnl, hl, Nat.add_mul]
       refine fin (by omega) (fun o' ho' _ => h3 o' ho') (fun o' e' => by cases e'; exact ⟨.inr (Nat.le_refl _), by omega⟩) rfl hfx (fun hle => ⟨by omega, hcnt, .inr ⟨c.H.next, 0, none, _, _, l' ++ new', rfl, h4, by omega, ?_, (r6.append hn).mono hle, fun r' q => (by cases q), fun _ => hsz⟩⟩)
       rw [← hsz]; exact getCells_new _
     | none =>
      have hcl := r8 rfl
      dsimp only
      rw [r3]
      dsimp only
      have hm2 : (len + n) * esz = len * esz + n * esz := Nat.add_mul _ _ _
      have hnpos : 0 < n * esz := Nat.mul_pos (by omega) hpos
      have hnf : Nat.ble (Nat.add 0 (Nat.mul (Nat.add len n) esz)) clen = false := by
       cases hq : Nat.ble (Nat.add 0 (Nat.mul (Nat.add len n) esz)) clen with
       | false => rfl
       | true =>
        have : 0 + (len + n) * esz ≤ clen := Nat.le_of_ble_eq_true hq
        omega
      have htip : Nat.beq (Nat.mul len esz) clen = true := by rw [hcl]; exact Nat.beq_refl _
      rw [Nat.beq_refl, hnf, htip, hcl]
      dsimp only
      have hsz : Nat.add (len * esz) new'.length = (len + n) * esz := by show len * esz + new'.length = _; rw [← hnl, hl, hm2]
      refine fin (by exact Nat.le_refl _) (fun o' _ hne => Heap.get_put_ne _ _ (fun q => hne (by rw [q]; exact hid))) (fun o' e' => by cases e'; exact ⟨.inl hid, hlt⟩) rfl hfx (fun hle => ⟨by omega, hcnt, .inr ⟨o, v + 1, none, _, _, _, rfl, Heap.get_put_same _ _ _, by rw [hsz]; exact Nat.le_refl _, happ, (r6.append hn).mono hle, fun r' q => (by cases q), fun _ => hsz⟩⟩)
 ·exact h.elim
theorem appL_ok (hs : HSim c G) {s : LV} {a : AV} {size n : Nat} {new : List LV} {new' : List AV} (ha : AR c s a) (hn : ARs c new new') (hl : new.length = n * size) (h : appL G size s n new K) : OpRes P c G K (appendA c.H size a n new') := by
 have hnl := hn.length
 unfold appL at h
 split at h
 ·-- nil
  cases ha
  unfold appendA
  cases hb : Nat.beq n 0 with
  | true =>
   have := Nat.eq_of_beq_eq_true hb
   subst this
   have : new = [] := List.eq_nil_of_length_eq_zero (by simpa using hl)
   subst this
   exact pushNil_ok hs h
  | false =>
   dsimp only [growA]
   exact newSlL_ok hs hn hl (fun r e => by cases e) h
 ·rename_i p k
  exact appDy_ok hs ha hn hl (by unfold appL; exact h)
 ·rename_i p k lo len
  split at h
  ·rename_i l len0 esz ver st hg
   obtain ⟨hk0, ⟨rfl, rfl, hn0⟩, hlim, h⟩ := h
   have hbn : Nat.beq n 0 = false := by
    cases hb : Nat.beq n 0 with
    | false => rfl
    | true => have := Nat.eq_of_beq_eq_true hb; omega
   cases ha with
   | @vw _ _ _ _ k' hh _ e hk haa hsl hz =>
    split at h
    case isFalse hfit =>
     obtain ⟨hl0, hpos, h1, h2⟩ := h
     subst hl0
     have hkv := (hs.obj p _ _ _ hg e).1
     have hz' := hz (by omega) rfl
     rcases haa (by omega) with ⟨r3, r4⟩ | ⟨o, v, len', esz', room, room', r3, r4, r9⟩
     ·subst r3
      rcases r4 with rfl | ⟨_, r5⟩
      ·have hl0 : l = [] := List.eq_nil_of_length_eq_zero (by have := (hs.obj p _ _ _ hg e).2.1; simpa using this)
       subst hl0
       unfold appendA
       rw [hbn]
       dsimp only [growA]
       refine newSlL_ok hs hn hl (fun r e => by cases e) ?_
       simpa using h2
      ·exact absurd rfl r5
     ·have e2 := e
      rw [r3] at e2
      obtain ⟨_, w1, w2, w3, t, clen, l', w4, w5, w6, w7, _⟩ := dyn_at hs hg e2
      subst w2 w3
      rw [r3, r4] at hz'
      dsimp only [tied] at hz'
      by_cases hrr : room' = room
      ·refine appDy_ok hs (p := p) (k := k) (.dy e hk (fun _ => by rw [r4, r3, hrr, Nat.zero_mul]) hsl) hn hl ?_
       unfold appL
       dsimp only
       rw [hg]
       exact ⟨hk0, ⟨rfl, hpos⟩, hlim, h1⟩
      ·rcases hz' with hz' | ⟨r, rfl, hr⟩
       ·exact absurd hz' hrr
       have hbe : (Nat.beq esz' esz' && Nat.ble len' lim) = true := by rw [Nat.beq_refl, show Nat.ble len' lim = true from Nat.ble_eq_true_of_le hlim]; rfl
       have hnf : Nat.ble (Nat.add len' n) r = false := by
        cases hq : Nat.ble (Nat.add len' n) r with
        | false => rfl
        | true => have : len' + n ≤ r := Nat.le_of_ble_eq_true hq; omega
       rw [r4]
       unfold appendA
       rw [hbn]
       dsimp only
       rw [hbe]
       dsimp only
       rw [hnf]
       dsimp only
       have hrd := readAt_of (i := 0) (n := len' * esz') w4 w6 w5 (by omega)
       rw [show Nat.mul len' esz' = len' * esz' from rfl, show 0 * esz' = 0 from Nat.zero_mul _, hrd]
       dsimp only [growA]
       have hadd := Nat.add_mul len' n esz'
       have htk : l.take (len' * esz') = l := List.take_of_length_le (by omega)
       refine newSlL_ok hs ((w7.take _).append hn) (by rw [List.length_append, List.length_take, hl]; show min (len' * esz') l.length + n * esz' = (len' + n) * esz'; omega) (fun r e => by cases e) ?_
       rw [htk]; exact h2
    case isTrue hfit =>
     obtain ⟨h1, h2⟩ := h
     have hkv := (hs.obj p _ _ _ hg e).1
     have hadd : (len + n) * esz = len * esz + n * esz := Nat.add_mul _ _ _
     rcases haa (by omega) with ⟨r3, r4⟩ | ⟨o, v, len', esz', room, room', r3, r4, r9⟩
     ·subst r3
      rcases r4 with rfl | ⟨_, r5⟩
      ·unfold appendA
       rw [hbn]
       dsimp only [growA]
       refine newSlL_ok hs hn hl (fun r e => by cases e) ?_
       simpa using h2
      ·exact absurd rfl r5
     ·have e2 := e
      rw [r3] at e2
      obtain ⟨_, w1, w2, w3, t, clen, l', w4, w5, w6, w7, _⟩ := dyn_at hs hg e2
      subst w2 w3
      rw [r4]
      have hw : writeL G (.dptr p k (len * esz')) new (fun G' => K (.vw p k 0 (len + n)) G') := by
       unfold writeL
       dsimp only
       rw [hg]
       exact ⟨hk0, by rw [hl, ← hadd]; exact hfit, h1⟩
      obtain ⟨o2, v2, i2, H', c', G', u1, u2, u3, u4, u5, u6⟩ := writeL_ok hs (a := .ptr o v (len * esz')) (.dptr e hk (fun _ => ⟨rfl, _, esz', room, r3⟩)) hn hw
      cases u1
      have inpl : (∀ r, room' = some r → len + n ≤ r) → OpRes P c G K (.val (.sl o v (0 * esz') (len + n) esz' room') H') := fun hr => by
       refine ⟨c', .vw p k 0 (len + n), G', u3, u4, u5, AR.mono u5.le (.vw e hk (fun _ => .inr ⟨o, v, _, esz', room, room', r3, rfl, hr⟩) rfl (fun q => by have := hz q; rw [r4] at this; exact this)), u6⟩
      have hbe : (Nat.beq esz' esz' && Nat.ble len lim) = true := by rw [Nat.beq_refl, show Nat.ble len lim = true from Nat.ble_eq_true_of_le hlim]; rfl
      have hix : Nat.add (0 * esz') (Nat.mul len esz') = len * esz' := by show 0 * esz' + len * esz' = _; omega
      have hle0 : len * esz' ≤ len' * esz' := by rw [← w1]; omega
      unfold appendA
      rw [hbn]
      dsimp only
      rw [hbe]
      dsimp only
      cases room' with
      | some r =>
       dsimp only
       cases hb : Nat.ble (Nat.add len n) r with
       | true =>
        dsimp only
        rw [hix, u2]
        exact inpl (fun r' e' => by cases e'; exact Nat.le_of_ble_eq_true hb)
       | false =>
        dsimp only
        have hr := readAt_of (i := 0) (n := len * esz') w4 w6 w5 (by omega)
        rw [show Nat.mul len esz' = len * esz' from rfl, show 0 * esz' = 0 from Nat.zero_mul _, hr]
        dsimp only [growA]
        refine newSlL_ok hs ((w7.take _).append hn) (by rw [List.length_append, List.length_take, hl]; show min (len * esz') l.length + n * esz' = (len + n) * esz'; omega) (fun r e => by cases e) h2
      | none =>
       dsimp only
       rw [w4]
       dsimp only
       rw [Nat.beq_refl, hix]
       have hb : Nat.ble (Nat.add (0 * esz') (Nat.mul (Nat.add len n) esz')) clen = true := Nat.ble_eq_true_of_le (by show 0 * esz' + (len + n) * esz' ≤ clen; omega)
       rw [hb]
       dsimp only
       rw [u2]
       exact inpl (fun r' e' => by cases e')
  ·exact h.elim
 ·rename_i p k len
  split at h
  ·rename_i l len0 esz ver st hg
   obtain ⟨hk0, ⟨rfl, hn0⟩, hlim, hle, h⟩ := h
   have hbn : Nat.beq n 0 = false := by
    cases hb : Nat.beq n 0 with
    | false => rfl
    | true => have := Nat.eq_of_beq_eq_true hb; omega
   cases ha with
   | @vf _ _ _ k' hh _ e hk haa hsl =>
    have hkv := (hs.obj p _ _ _ hg e).1
    obtain ⟨o, v, len', esz', room, r3, r4⟩ := haa (by omega)
    have e2 := e
    rw [r3] at e2
    obtain ⟨_, w1, w2, w3, t, clen, l', w4, w5, w6, w7, _⟩ := dyn_at hs hg e2
    subst w2 w3
    have hbe : (Nat.beq esz' esz' && Nat.ble len lim) = true := by rw [Nat.beq_refl, show Nat.ble len lim = true from Nat.ble_eq_true_of_le hlim]; rfl
    have hnf : Nat.ble (Nat.add len n) len = false := by
     cases hq : Nat.ble (Nat.add len n) len with
     | false => rfl
     | true => have : len + n ≤ len := Nat.le_of_ble_eq_true hq; omega
    rw [r4]
    unfold appendA
    rw [hbn]
    dsimp only
    rw [hbe]
    dsimp only
    rw [hnf]
    dsimp only
    have hrd := readAt_of (i := 0) (n := len * esz') w4 w6 w5 (by omega)
    rw [show Nat.mul len esz' = len * esz' from rfl, hrd]
    dsimp only [growA]
    have hadd := Nat.add_mul len n esz'
    refine newSlL_ok hs ((w7.take _).append hn) (by rw [List.length_append, List.length_take, hl]; show min (len * esz') l.length + n * esz' = (len + n) * esz'; omega) (fun r e => by cases e) h
  ·exact h.elim
 ·exact h.elim
end res
end Go.Sv
namespace Go.Sv
section res
variable {P : Program} {c : Cx} {G : LHeap} {K : LV → LHeap → Prop}
theorem toA_scal {v : LV} {a : AV} (hs : v.scal = true) (h : AR c v a) : a = toA v := by
 cases v <;> first | (cases hs; done) | (cases h; rfl)
theorem toAs_scal : ∀ {l : List LV} {r : List AV}, l.all LV.scal = true → ARs c l r → r = toAs l
 | [], _, _, .nil => rfl
 | v :: l, _, h, .cons e es => by
  simp only [List.all_cons, Bool.and_eq_true] at h
  rw [toAs, ← toA_scal h.1 e, ← toAs_scal h.2 es]
theorem binL_ok {op : BinOp} {g : Bool} {t : TypeId} {x y : LV} {a b : AV} {K : LV → Prop} (hx : AR c x a) (hy : AR c y b) (h : binL P op g t x y K) : VRes c K (binA P op g t a b) := by
 unfold binL at h
 split at h
 ·cases hx; cases hy; exact uuL_ok h
 ·cases hx; cases hy; exact iiL_ok h
 ·cases hx; cases hy; exact bbL_ok h
 ·rename_i u v
  cases hx; cases hy
  cases op <;> try exact h.elim
  ·simp only [binA]; rw [h.1]; exact .mk (.bool _) h.2
  ·simp only [binA]; rw [h.1]; exact .mk (.bool _) h.2
 ·rename_i u s
  cases hx; cases hy
  cases op <;> try exact h.elim
  ·obtain ⟨h1, h2⟩ := h
   obtain ⟨n, rfl⟩ := Int.eq_ofNat_of_zero_le h1
   exact .mk (.u' (shl_u u n)) h2
  ·obtain ⟨h1, h2⟩ := h
   obtain ⟨n, rfl⟩ := Int.eq_ofNat_of_zero_le h1
   exact .mk (.u' (shr_u u n)) h2
 ·rename_i u s
  cases hx; cases hy
  cases op <;> try exact h.elim
  ·obtain ⟨h1, h2, h3, h4⟩ := h
   rw [(shift_i (s := Int.ofNat s.toNat) h1 (Int.natCast_nonneg _) (by show (s.toNat : Int) ≤ 64; omega)).1]
   exact .mk (.i' (wrapA_i64 h3)) h4
  ·obtain ⟨h1, h2, h4⟩ := h
   rw [(shift_i (s := Int.ofNat s.toNat) h1 (Int.natCast_nonneg _) (by show (s.toNat : Int) ≤ 64; omega)).2]
   exact .mk (.i _) h4
 ·obtain ⟨rfl, h⟩ := h
  cases hx; cases hy; exact kkL_ok h
 ·cases hx; cases hy; exact ssL_ok h
 ·cases hx; cases hy; exact nilL_ok (by cases op <;> rfl) h
 ·cases hx; cases hy
  have : ∀ o v i, eqA P g t (.ptr o v i) .nilPtr = eqA P g t (.ptr 0 0 0) .nilPtr := fun o v i => by
   unfold eqA guardT eqT eqT1
   dsimp only
   cases P.underlying t with
   | none => rfl
   | some d => cases d <;> rfl
  refine nilL_ok (r := false) (by cases op <;> rfl) ?_
  cases op <;> simp only [nilL] at h ⊢ <;> (rw [this]; exact h)
 ·cases hx; cases hy; exact nilL_ok (by cases op <;> rfl) h
 ·cases hy
  obtain ⟨h1, h2⟩ := h
  have key : eqA P g t .emp .nilSl = some false ∧ ∀ o v i len esz room, eqA P g t (.sl o v i len esz room) .nilSl = some false := by
   unfold eqA guardT eqT eqT1 at h1 ⊢
   dsimp only at h1 ⊢
   cases hu : P.underlying t with
   | none => rw [hu] at h1; cases h1
   | some d => rw [hu] at h1; cases d <;> first | (cases h1; done) | exact ⟨rfl, fun _ _ _ _ _ _ => rfl⟩
  have fin : ∀ {a : AV} {b : Bool}, eqA P g t a .nilSl = some b → (binA P op g t a .nilSl = match op with | .eql => yesB (eqA P g t a .nilSl) | .neq => notB (eqA P g t a .nilSl) | _ => none) → (match op with | .eql => K (.bool b) | .neq => K (.bool !b) | _ => False) → VRes c K (binA P op g t a .nilSl) := by
   intro a b h3 h4 h5
   rw [h4, h3]
   cases op <;> first | exact h5.elim | exact .mk (.bool _) h5
  cases hx with
  | lst hf hrm hlen hr hl =>
   refine fin (key.2 _ _ _ _ _ _) (by cases op <;> rfl) ?_
   cases op <;> first | exact h2.elim | exact h2.1
  | lstNil =>
   refine fin h1 (by cases op <;> rfl) ?_
   cases op <;> first | exact h2.elim | exact h2.2 rfl
  | lstEmp =>
   refine fin key.1 (by cases op <;> rfl) ?_
   cases op <;> first | exact h2.elim | exact h2.1
 ·cases hx with
  | agg h1 => cases hy with
   | agg h2 =>
    cases op <;> try exact h.elim
    ·obtain ⟨b, s1, s2, e, k⟩ := h
     rw [toAs_scal s1 h1, toAs_scal s2 h2]
     simp only [binA]; rw [e]; exact .mk (.bool _) k
    ·obtain ⟨b, s1, s2, e, k⟩ := h
     rw [toAs_scal s1 h1, toAs_scal s2 h2]
     simp only [binA]; rw [e]; exact .mk (.bool _) k
 ·cases hx; cases hy; exact nilL_ok (by cases op <;> rfl) h
 ·cases hx; cases hy
  have : ∀ o, eqA P g t (.map o) .nilMap = eqA P g t (.map 0) .nilMap := fun o => by
   unfold eqA guardT eqT eqT1
   dsimp only
   cases P.underlying t with
   | none => rfl
   | some d => cases d <;> rfl
  refine nilL_ok (r := false) (by cases op <;> rfl) ?_
  cases op <;> simp only [nilL] at h ⊢ <;> (rw [this]; exact h)
 ·cases hx; cases hy; exact nilL_ok (by cases op <;> rfl) h
 ·cases hx; cases hy
  have : ∀ o a, eqA P g t (.iface o a) .nilIf = eqA P g t (.iface 0 .nilMap) .nilIf := fun o a => by
   unfold eqA guardT eqT eqT1
   dsimp only
   cases P.underlying t with
   | none => rfl
   | some d => cases d <;> rfl
  refine nilL_ok (r := false) (by cases op <;> rfl) ?_
  cases op <;> simp only [nilL] at h ⊢ <;> (rw [this]; exact h)
 ·exact h.elim
theorem unL_ok {op : UnOp} {x : LV} {a : AV} {K : LV → Prop} (hx : AR c x a) (h : unL op x K) : VRes c K (unA op a) := by
 unfold unL at h
 simp only [subU_eq, notU_eq] at h
 split at h
 ·cases hx; exact .mk (.bool _) h
 ·cases hx
  refine .mk (.u' ?_) h
  rename_i u
  rw [wrapA_u64, UInt64.toNat_sub]
  show (0 - Int.ofNat u.toNat) % _ = ((2 ^ 64 - u.toNat + (0 : UInt64).toNat) % 2 ^ 64 : Nat)
  have := u.toNat_lt
  simp only [Int.ofNat_eq_natCast, UInt64.toNat_zero]
  omega
 ·cases hx
  obtain ⟨h1, h2⟩ := h
  refine .mk (.i' ?_) h2
  have e : ∀ n : Int, Int.sub 0 n = -n := fun n => by show 0 - n = -n; omega
  rw [e]; exact wrapA_i64 h1
 ·cases hx
  refine .mk (.u' ?_) h
  rename_i u
  have hu := u.toNat_lt
  show IntKind.wrap .u64 (BitVec.ofInt 64 (IntKind.max .u64) ^^^ BitVec.ofInt 64 (Int.ofNat u.toNat)).toNat = _
  have e1 : BitVec.ofInt 64 (IntKind.max .u64) = BitVec.allOnes 64 := by decide
  have e2 : BitVec.ofInt 64 (Int.ofNat u.toNat) = u.toBitVec := by
   apply BitVec.eq_of_toNat_eq
   simp
  rw [e1, e2, BitVec.allOnes_xor]
  show ((~~~u.toBitVec).toNat : Int) % 18446744073709551616 = Int.ofNat (~~~u).toNat
  have : (~~~u).toNat = (~~~u.toBitVec).toNat := rfl
  rw [this]
  exact Int.emod_eq_of_lt (Int.natCast_nonneg _) (by have := (~~~u.toBitVec).isLt; omega)
 ·exact h.elim
theorem u64_ofInt (n : Int) : n % 18446744073709551616 = Int.ofNat (UInt64.ofInt n).toNat := by
 unfold UInt64.ofInt
 rw [UInt64.toNat_ofNat']
 simp only [Int.ofNat_eq_natCast]
 omega
theorem u8_ofInt (n : Int) : n % 256 = Int.ofNat (UInt8.ofInt n).toNat := by
 unfold UInt8.ofInt
 rw [UInt8.toNat_ofNat']
 simp only [Int.ofNat_eq_natCast]
 omega
theorem cvL_ok {k : IntKind} {x : LV} {a : AV} {K : LV → Prop} (hx : AR c x a) (h : cvL k x K) : ∃ k' n, a = .int k' n ∧ ∃ v, AR c v (.int k (wrapA k n)) ∧ K v := by
 unfold cvL at h
 simp only [iU_eq, bU_eq, uB_eq, iB_eq] at h
 split at h
 ·cases hx
  rename_i u
  refine ⟨_, _, rfl, _, .u' ?_, h⟩
  rw [wrapA_u64]
  exact Int.emod_eq_of_lt (Int.natCast_nonneg _) (by have := u.toNat_lt; simp only [Int.ofNat_eq_natCast]; omega)
 ·cases hx
  refine ⟨_, _, rfl, _, .u' ?_, h⟩
  rename_i n
  rw [wrapA_u64]
  exact u64_ofInt n
 ·cases hx
  rename_i u
  refine ⟨_, _, rfl, _, .u' ?_, h⟩
  rw [wrapA_u64]
  have := u.toNat_lt
  rw [UInt64.toNat_ofNat']
  show Int.ofNat u.toNat % 18446744073709551616 = Int.ofNat (u.toNat % 2 ^ 64)
  simp only [Int.ofNat_eq_natCast]
  omega
 ·cases hx
  rename_i u
  exact ⟨_, _, rfl, _, .i' (wrapA_i64 ⟨by simp only [Int.ofNat_eq_natCast]; omega, by simp only [Int.ofNat_eq_natCast]; omega⟩), h.2⟩
 ·cases hx
  exact ⟨_, _, rfl, _, .i' (wrapA_i64 h.1), h.2⟩
 ·cases hx
  rename_i u
  have := u.toNat_lt
  exact ⟨_, _, rfl, _, .i' (wrapA_i64 ⟨by simp only [Int.ofNat_eq_natCast]; omega, by simp only [Int.ofNat_eq_natCast]; omega⟩), h⟩
 ·cases hx
  rename_i u
  refine ⟨_, _, rfl, _, .b' ?_, h⟩
  rw [wrapA_u8, UInt8.toNat_ofNat']
  show Int.ofNat u.toNat % 256 = Int.ofNat (u.toNat % 2 ^ 8)
  simp only [Int.ofNat_eq_natCast]
  omega
 ·cases hx
  refine ⟨_, _, rfl, _, .b' ?_, h⟩
  rename_i n
  rw [wrapA_u8]
  exact u8_ofInt n
 ·cases hx
  rename_i u
  refine ⟨_, _, rfl, _, .b' ?_, h⟩
  rw [wrapA_u8]
  exact Int.emod_eq_of_lt (Int.natCast_nonneg _) (by have := u.toNat_lt; simp only [Int.ofNat_eq_natCast]; omega)
 ·cases hx
  refine ⟨_, _, rfl, _, .b' ?_, h⟩
  rename_i n
  rw [wrapA_u8]
  exact u8_ofInt n
 ·cases hx
  refine ⟨_, _, rfl, _, ?_, h⟩
  rename_i n
  have e : wrapA .i32 n = w32 n := by
   rw [wrapA_spec]
   show (if (true && decide (n % 4294967296 ≥ 2147483648)) = true then n % 4294967296 - 4294967296 else n % 4294967296) = w32 n
   simp only [Bool.true_and, decide_eq_true_eq, w32]
   split <;> omega
  rw [e]
  exact .int .i32 _
 ·cases hx
  exact ⟨_, _, rfl, _, .i' (wrapA_i64 h.1), h.2⟩
 ·exact h.elim
theorem layL_eq : ∀ (r l : List AV) (i : Nat), i + r.length ≤ l.length → layL l i r = layAV l i r
 | [], l, i, h => by
  simp only [layL, layAV, List.length_nil, Nat.add_zero, List.append_nil, List.take_append_drop]
 | a :: r, l, i, h => by
  simp only [List.length_cons] at h
  rw [layL, layL_eq r (l.set i a) (i + 1) (by simp; omega)]
  refine List.ext_getElem? (fun j => ?_)
  rw [layAV_get (by simp; omega), layAV_get (by simp; omega)]
  simp only [List.length_cons]
  by_cases h1 : i + 1 ≤ j ∧ j < i + 1 + r.length
  ·rw [if_pos h1, if_pos (by omega), show j - i = (j - (i + 1)) + 1 from by omega, List.getElem?_cons_succ]
  ·rw [if_neg h1]
   by_cases h2 : j = i
   ·subst h2
    rw [if_pos (by omega), List.getElem?_set_self (by omega)]
    simp
   ·rw [if_neg (by omega), List.getElem?_set_ne (Ne.symm h2)]
theorem fillL_ok {ρ : LEnv} {E : Tr AV} (hE : EnvL c ρ E) : ∀ {ps : List (Nat × Nat × Lx)} {cs l : List LV} {cs' : List AV}, ps.all (·.2.2.ok) = true → ARs c cs cs' → fillL ρ cs ps = some l → ∃ l', fillR (ρA E) cs' (rps ps) = some l' ∧ ARs c l l'
 | [], cs, l, cs', _, h, e => by
  simp only [fillL, Option.some.injEq] at e
  subst e
  exact ⟨cs', rfl, h⟩
 | (off, size, x) :: ps, cs, l, cs', hok, h, e => by
  simp only [List.all_cons, Bool.and_eq_true] at hok
  simp only [fillL] at e
  split at e
  ·cases e
  ·rename_i r hr
   split at e
   ·rename_i hc
    obtain ⟨h1, h2⟩ := hc
    obtain ⟨r', q1, q2⟩ := (Lx_ok hE hok.1).cells hr
    have hrl := q2.length
    have hcl := h.length
    obtain ⟨l', q3, q4⟩ := fillL_ok hE hok.2 (h.lay q2 off) e
    refine ⟨l', ?_, q4⟩
    simp only [rps, fillR, q1]
    have b1 : Nat.beq r'.length size = true := by rw [← hrl, h1]; exact Nat.beq_refl _
    have b2 : Nat.ble (Nat.add off size) cs'.length = true := Nat.ble_eq_true_of_le (by show off + size ≤ _; omega)
    simp only [b1, b2]
    rw [layL_eq _ _ _ (by omega)]
    exact q3
   ·cases e
theorem bndL_ok {ρ : LEnv} {E : Tr AV} (hE : EnvL c ρ E) {d : Nat} {x : Option Lx} (hok : optOk x = true) {K : Nat → Prop} (h : bndL ρ d x K) : ∃ r n, optR (ρA E) (x.map Lx.r) = some r ∧ r.getD d = n ∧ K n := by
 cases x with
 | none => exact ⟨none, d, rfl, rfl, h⟩
 | some x =>
  simp only [bndL] at h
  have hx := Lx_ok hE (show x.ok = true from hok)
  simp only [Option.map_some, optR]
  split at h
  ·rename_i n hn
   obtain ⟨h1, h2⟩ := h
   rw [hn] at hx
   generalize x.r.ev (ρA E) = a at hx
   cases hx
   obtain ⟨m, rfl⟩ := Int.eq_ofNat_of_zero_le h1
   exact ⟨some m, m, rfl, rfl, h2⟩
  ·rename_i n hn
   rw [hn] at hx
   generalize x.r.ev (ρA E) = a at hx
   cases hx
   exact ⟨some n.toNat, n.toNat, rfl, rfl, h⟩
  ·exact h.elim
end res
end Go.Sv
namespace Go.Sv
section res
variable {P : Program} {c : Cx} {G : LHeap} {K : LV → LHeap → Prop}
theorem keyL_ok {d : TypeDesc} {k k' : LV} {a a' : AV} {b : Bool} (h1 : AR c k a) (h2 : AR c k' a') (h : keyL d k k' = some b) : keyEq d a a' = some b := by
 unfold keyL at h
 split at h
 ·cases h1; cases h2
  cases h
  simp only [keyEq, show kindEq .i64 .i64 = true from rfl, eqI_dec]
 ·cases h1; cases h2
  cases h
  simp only [keyEq, show kindEq .u64 .u64 = true from rfl, eqI_dec, dec_u_eq]
 ·cases h1; cases h2
  cases h
  simp only [keyEq, str_eq]
 ·cases h
theorem findL_ok {d : TypeDesc} {k : LV} {a : AV} (hk : AR c k a) {K : Option LV → Prop} : ∀ {es : List (LV × LV × Nat)} {es' : List (AV × AV × Nat)}, MRs c es es' → findL d k K es → (findA d a es' = some none ∧ K none) ∨ ∃ v b, findA d a es' = some (some b) ∧ AR c v b ∧ K (some v)
 | _, _, .nil, h => .inl ⟨rfl, h⟩
 | (k1, v1, n) :: l, _, .cons hk1 hv1 hr, h => by
  simp only [findL] at h
  split at h
  ·rename_i b hb
   have := keyL_ok hk hk1 hb
   simp only [findA, this]
   cases b with
   | true => exact .inr ⟨v1, _, rfl, hv1, h.1 rfl⟩
   | false => exact findL_ok hk hr (h.2 rfl)
  ·exact h.elim
theorem putL_ok {d : TypeDesc} {k v : LV} {a b : AV} {ck : Nat} (hk : AR c k a) (hv : AR c v b) : ∀ {es : List (LV × LV × Nat)} {es' : List (AV × AV × Nat)} {K : List (LV × LV × Nat) → Bool → Prop}, MRs c es es' → putL d k v ck K es → ∃ r r' new, setMapA d a b ck es' = some (r', new) ∧ MRs c r r' ∧ K r new
 | _, _, K, .nil, h => ⟨_, _, true, rfl, .cons hk hv .nil, h⟩
 | (k1, v1, n) :: l, _, K, .cons hk1 hv1 hr, h => by
  simp only [putL] at h
  split at h
  ·rename_i t ht
   have := keyL_ok hk hk1 ht
   simp only [setMapA, this]
   cases t with
   | true => exact ⟨_, _, false, rfl, .cons hk hv hr, h.1 rfl⟩
   | false =>
    obtain ⟨r, r', new, q1, q2, q3⟩ := putL_ok (K := fun r new => K ((k1, v1, n) :: r) new) hk hv hr (h.2 rfl)
    exact ⟨_, _, new, by rw [q1], .cons hk1 hv1 q2, q3⟩
  ·exact h.elim
theorem mapL_ok (hs : HSim c G) {x : LV} {a : AV} (hx : AR c x a) {K : List (LV × LV × Nat) → Prop} (h : mapL G x K) : ∃ es es', mapOf c.H a = some es' ∧ MRs c es es' ∧ K es ∧ (a = .nilMap ∧ es' = [] ∨ ∃ o ck, a = .map o ∧ c.H.get o = some (.map es' ck)) := by
 unfold mapL at h
 split at h
 ·cases hx
  exact ⟨[], [], rfl, .nil, h, .inl ⟨rfl, rfl⟩⟩
 ·rename_i p
  split at h
  ·rename_i es ck st hg
   cases hx with
   | @map _ o e =>
    obtain ⟨_, o', es', he, r2, r3⟩ := hs.obj p _ _ _ hg e
    injection he with he
    subst he
    refine ⟨es, es', ?_, r3, h, .inr ⟨o, ck, rfl, r2⟩⟩
    simp only [mapOf, r2]
  ·exact h.elim
 ·exact h.elim
theorem pushMapL_ok (hs : HSim c G) (k : K (.map G.length) (G ++ [.map [] 0 0])) : OpRes P c G K (pushMap c.H) := by
 unfold pushMap
 obtain ⟨q1, q2, _⟩ := hs.push (H' := c.H.push (.map [] 0)) (x := .map c.H.next) (ob := .map [] 0 0) (by show c.H.next ≤ c.H.next + 1; omega) (fun o ho => Heap.get_push_ne _ _ ho) (fun o e => by cases e; exact ⟨Nat.le_refl _, by show c.H.next < c.H.next + 1; omega⟩)
  ⟨rfl, c.H.next, [], rfl, Heap.get_push_same _ _, .nil⟩
 exact ⟨_, .map G.length, _, rfl, q1, q2, .map (by rw [← hs.len]; exact List.getElem?_concat_length), k⟩
theorem mapUpd_ok (hs : HSim c G) {d : TypeDesc} {m k v : LV} {ma ka va : AV} (hm : AR c m ma) (hk : AR c k ka) (hv : AR c v va) (h : updL' G d m k v fun G' => K .any G') :
  OpRes P c G K (match (generalizing := false) ma with
   | .map o => match c.H.get o with
    | some (.map es clock) => match setMapA d ka va clock es with
     | some (es', true) => .val undefA (c.H.put o (.map es' (Nat.add clock 1)))
     | some (es', false) => .val undefA (c.H.put o (.map es' clock))
     | none => .no
    | _ => .no
   | _ => .no) := by
 unfold updL' at h
 split at h
 ·rename_i p
  split at h
  ·rename_i es ck st hg
   cases hm with
   | @map _ o e =>
    obtain ⟨_, o', es', he, r2, r3⟩ := hs.obj p _ _ _ hg e
    injection he with he
    subst he
    obtain ⟨r, r', new, q1, q2, q3⟩ := putL_ok hk hv r3 h
    have hlt : o < c.H.next := hs.lt o ⟨p, _, _, _, hg, rfl, e, rfl⟩
    have fin : ∀ ck', K .any (G.set p (.map r ck' (st + 1))) → OpRes P c G K (.val undefA (c.H.put o (.map r' ck'))) := by
     intro ck' kk
     obtain ⟨u1, u2, u3⟩ := hs.upd (k' := 0) (x' := .map o) (ob' := .map r ck' (st + 1)) (H' := c.H.put o (.map r' ck')) hg rfl e (Nat.le_refl _) (fun o' _ hne => Heap.get_put_ne _ _ (fun q => hne (by rw [q]; rfl))) (fun o' e' => by cases e'; exact ⟨.inl rfl, hlt⟩) (Nat.le_refl _) (fun _ => rfl) (fun _ => rfl) (.inl (Nat.lt_succ_self _))
      (fun hle => ⟨rfl, o, r', rfl, Heap.get_put_same _ _ _, q2.mono hle⟩)
     exact ⟨_, .any, _, rfl, u1, u2, .any _, kk⟩
    simp only [r2, q1]
    cases new with
    | true => exact fin _ q3
    | false => exact fin _ q3
  ·exact h.elim
 ·exact h.elim
theorem HSim.freeze (hs : HSim c G) {p k o st : Nat} {x : AV} {ob : LObj} (hG : G[p]? = some ob) (hl : ob.live = true) (hst : ob.st < st) (hp : c.hd[p]? = some (k, x)) (ho : idOf x = some o) :
  HSim ⟨c.hd, fun q => c.Fz q ∨ q = o, c.H⟩ (G.set p (.dead st)) ∧ Step c G ⟨c.hd, fun q => c.Fz q ∨ q = o, c.H⟩ (G.set p (.dead st)) := by
 have hpg : p < G.length := (List.getElem?_eq_some_iff.1 hG).1
 have hle : CxLe c ⟨c.hd, fun q => c.Fz q ∨ q = o, c.H⟩ := ⟨fun p k h e => ⟨k, h, e, Nat.le_refl _, fun _ => rfl, fun _ => rfl⟩, fun q hq => ⟨.inl hq, rfl⟩⟩
 have hino : Own c G o := ⟨p, ob, k, x, hG, hl, hp, ho⟩
 have hinv : ∀ {q : Nat} {ob1 : LObj}, (G.set p (.dead st))[q]? = some ob1 → (q = p ∧ ob1 = .dead st) ∨ (q ≠ p ∧ G[q]? = some ob1) := by
  intro q ob1 e
  by_cases hq : q = p
  ·subst hq
   rw [List.getElem?_set_self hpg] at e
   cases e; exact .inl ⟨rfl, rfl⟩
  ·rw [List.getElem?_set_ne (Ne.symm hq)] at e
   exact .inr ⟨hq, e⟩
 have hown : ∀ q, Own ⟨c.hd, fun q => c.Fz q ∨ q = o, c.H⟩ (G.set p (.dead st)) q → Own c G q ∧ q ≠ o := by
  rintro q ⟨p1, ob1, k1, h1, e1, e2, e3, e4⟩
  rcases hinv e1 with ⟨_, rfl⟩ | ⟨hne, e1⟩
  ·cases e2
  ·refine ⟨⟨p1, ob1, k1, h1, e1, e2, e3, e4⟩, fun hq => hne ?_⟩
   subst hq
   exact hs.excl p1 p ob1 ob k1 h1 k x q e1 hG e2 hl e3 hp e4 ho
 refine ⟨⟨by simp [hs.len], fun q hq => hq.elim (hs.fz q) (fun e => by rw [e]; exact hs.lt o hino), fun q hq => hs.lt q (hown q hq).1, fun q hq hf => hf.elim (hs.sep q (hown q hq).1) (hown q hq).2, fun q ob1 k1 h1 e1 e2 => ?_, ?_⟩, ⟨hle, Nat.le_refl _, fun _ _ _ => rfl, fun q hq => .inl (hown q hq).1, fun q hq => hq.elim .inl (fun e => .inr (.inl (by rw [e]; exact hino))), fun q ob1 ob2 e1 e2 => ?_, fun q ob1 ob2 k1 h1 o1 e1 e2 e3 e4 e5 e6 => ?_⟩⟩
 ·rcases hinv e1 with ⟨_, rfl⟩ | ⟨_, e1⟩
  ·trivial
  ·by_cases hl1 : ob1.live = true
   ·exact (hs.obj q ob1 k1 h1 e1 e2).mono hle (fun _ _ => rfl)
   ·cases ob1 <;> first | exact absurd rfl hl1 | trivial
 ·intro q r ob1 ob2 k1 h1 k2 h2 o1 e1 e2 e3 e4 e5 e6 e7 e8
  rcases hinv e1 with ⟨_, rfl⟩ | ⟨_, e1⟩
  ·cases e3
  ·rcases hinv e2 with ⟨_, rfl⟩ | ⟨_, e2⟩
   ·cases e4
   ·exact hs.excl q r ob1 ob2 k1 h1 k2 h2 o1 e1 e2 e3 e4 e5 e6 e7 e8
 ·rcases hinv e2 with ⟨rfl, rfl⟩ | ⟨_, e2⟩
  ·rw [hG] at e1; cases e1
   exact Nat.le_of_lt hst
  ·rw [e1] at e2; cases e2
   exact Nat.le_refl _
 ·rcases hinv e2 with ⟨rfl, rfl⟩ | ⟨_, e2⟩
  ·rw [hG] at e1; cases e1
   have : ob.st = st := e6
   omega
  ·rw [e1] at e2; cases e2
   exact ⟨rfl, rfl, rfl⟩
end res
end Go.Sv
namespace Go.Sv
section res
variable {P : Program} {c : Cx} {G : LHeap} {K : LV → LHeap → Prop}
theorem cutSl_any (l h m o v i esz : Nat) (hlh : l ≤ h) (hhm : h ≤ m) : (h - l = 0 ∧ cutSl l h m o v i esz = .emp ∧ l ≠ 0) ∨ ∃ room', cutSl l h m o v i esz = .sl o v (i + l * esz) (h - l) esz room' ∧ ∀ r, room' = some r → h - l ≤ r := by
 unfold cutSl
 cases h1 : Nat.beq l m with
 | true =>
  have e1 := Nat.eq_of_beq_eq_true h1
  cases h2 : Nat.beq l 0 with
  | true =>
   have e2 := Nat.eq_of_beq_eq_true h2
   have : h - l = 0 := by omega
   refine .inr ⟨some 0, ?_, fun r _ => by omega⟩
   rw [this, e2]; simp
  | false => exact .inl ⟨by omega, rfl, fun e => by subst e; cases h2⟩
 | false => exact .inr ⟨_, rfl, fun r e => by cases e; show h - l ≤ m - l; omega⟩
theorem sliceSl_any {lo hi : Option Nat} {o v i len esz : Nat} {room : Option Nat} (hlh : lo.getD 0 ≤ hi.getD len) (hh : hi.getD len ≤ len) (hr : ∀ r, room = some r → len ≤ r) :
  ∃ a, sliceSl esz lo hi none o v i len esz room = some a ∧ slish a = true ∧ ((hi.getD len - lo.getD 0 = 0 ∧ a = .emp ∧ lo.getD 0 ≠ 0) ∨ ∃ room', a = .sl o v (i + lo.getD 0 * esz) (hi.getD len - lo.getD 0) esz room' ∧ ∀ r, room' = some r → hi.getD len - lo.getD 0 ≤ r) := by
 generalize hl : lo.getD 0 = l at hlh
 generalize hx : hi.getD len = h at hlh hh
 have key : ∀ a, ((h - l = 0 ∧ a = .emp ∧ l ≠ 0) ∨ ∃ room', a = AV.sl o v (i + l * esz) (h - l) esz room' ∧ ∀ r, room' = some r → h - l ≤ r) → slish a = true := by
  rintro a (⟨_, rfl, _⟩ | ⟨_, rfl, _⟩) <;> rfl
 unfold sliceSl
 rw [Nat.beq_refl, hl, hx]
 dsimp only
 unfold sliceSl'
 have b1 : Nat.ble l h = true := Nat.ble_eq_true_of_le hlh
 cases room with
 | some r =>
  have b2 : Nat.ble h ((some r).getD len) = true := Nat.ble_eq_true_of_le (by have := hr r rfl; show h ≤ r; omega)
  rw [b1, b2]
  dsimp only
  have := cutSl_any l h r o v i esz hlh (by have := hr r rfl; omega)
  exact ⟨_, rfl, key _ this, this⟩
 | none =>
  have b2 : Nat.ble h ((none : Option Nat).getD len) = true := Nat.ble_eq_true_of_le hh
  rw [b1, b2]
  dsimp only
  cases h2 : Nat.beq l 0 with
  | true =>
   have e2 := Nat.eq_of_beq_eq_true h2
   have : (h - l = 0 ∧ (AV.sl o v i h esz none) = .emp ∧ l ≠ 0) ∨ ∃ room', AV.sl o v i h esz none = AV.sl o v (i + l * esz) (h - l) esz room' ∧ ∀ r, room' = some r → h - l ≤ r := .inr ⟨none, by rw [e2]; simp, fun r e => by cases e⟩
   exact ⟨_, rfl, key _ this, this⟩
  | false =>
   cases h3 : Nat.beq l h with
   | true =>
    have e3 := Nat.eq_of_beq_eq_true h3
    exact ⟨_, rfl, rfl, .inl ⟨by omega, rfl, fun e => by subst e; cases h2⟩⟩
   | false => exact ⟨_, rfl, rfl, .inr ⟨none, rfl, fun r e => by cases e⟩⟩
theorem sliceSl_any3 {lo hi : Option Nat} {o v i len esz m : Nat} {room : Option Nat} (hlh : lo.getD 0 ≤ hi.getD len) (hh : hi.getD len ≤ m) (hm : m ≤ len) (hr : ∀ r, room = some r → len ≤ r) :
  ∃ a, sliceSl esz lo hi (some m) o v i len esz room = some a ∧ slish a = true ∧ ((hi.getD len - lo.getD 0 = 0 ∧ a = .emp ∧ lo.getD 0 ≠ 0) ∨ ∃ room', a = .sl o v (i + lo.getD 0 * esz) (hi.getD len - lo.getD 0) esz room' ∧ ∀ r, room' = some r → hi.getD len - lo.getD 0 ≤ r) := by
 generalize hl : lo.getD 0 = l at hlh
 generalize hx : hi.getD len = h at hlh hh
 have key : ∀ a, ((h - l = 0 ∧ a = .emp ∧ l ≠ 0) ∨ ∃ room', a = AV.sl o v (i + l * esz) (h - l) esz room' ∧ ∀ r, room' = some r → h - l ≤ r) → slish a = true := by
  rintro a (⟨_, rfl, _⟩ | ⟨_, rfl, _⟩) <;> rfl
 unfold sliceSl
 rw [Nat.beq_refl, hl, hx]
 dsimp only
 unfold sliceSl'
 have hmost : m ≤ room.getD len := by
  cases room with
  | none => exact hm
  | some r => have := hr r rfl; show m ≤ r; omega
 rw [show Nat.ble l h = true from Nat.ble_eq_true_of_le hlh, show Nat.ble h (room.getD len) = true from Nat.ble_eq_true_of_le (Nat.le_trans hh hmost)]
 dsimp only
 rw [show Nat.ble h m = true from Nat.ble_eq_true_of_le hh, show Nat.ble m (room.getD len) = true from Nat.ble_eq_true_of_le hmost]
 dsimp only
 have := cutSl_any l h m o v i esz hlh hh
 exact ⟨_, rfl, key _ this, this⟩
theorem sliceSl_keep {lo hi : Option Nat} {size o v i len esz : Nat} {room : Option Nat} {a : AV} (h : sliceSl size lo hi none o v i len esz room = some a) (h0 : lo.getD 0 = 0) : ∃ i' n, a = .sl o v i' n esz room := by
 unfold sliceSl at h
 split at h
 ·cases h
 rw [h0] at h
 unfold sliceSl' at h
 split at h
 ·cases h
 split at h
 ·cases h
 dsimp only at h
 cases room with
 | some r =>
  dsimp only at h
  cases h
  unfold cutSl
  split
  ·rename_i h1
   have := Nat.eq_of_beq_eq_true h1
   subst this
   exact ⟨_, _, rfl⟩
  ·exact ⟨_, _, rfl⟩
 | none =>
  dsimp only at h
  cases h
  exact ⟨_, _, rfl⟩
theorem sliceSl_tied {lo hi : Option Nat} {size o v i len esz n0 : Nat} {room : Option Nat} {a hh : AV} (h : sliceSl size lo hi none o v i len esz room = some a) (h0 : n0 = 0 → lo.getD 0 = 0) (r2 : hh = .sl o v 0 len esz room) : tied n0 hh a := by
 intro hn
 obtain ⟨i', n, rfl⟩ := sliceSl_keep h (h0 hn)
 subst r2
 exact .inl rfl
theorem sliceSl_tied2 {lo hi : Option Nat} {size o v i len esz n0 m0 i2 n2 : Nat} {room' : Option Nat} {a hh : AV} (h : sliceSl size lo hi none o v i len esz room' = some a) (h0 : n0 = 0 → lo.getD 0 = 0 ∧ m0 = 0) (hz : tied m0 hh (.sl o v i2 n2 esz room')) : tied n0 hh a := by
 intro hn
 obtain ⟨i', n, rfl⟩ := sliceSl_keep h (h0 hn).1
 exact hz (h0 hn).2
theorem sliceSl_tied3 {lo hi : Option Nat} {size o v i len esz m n0 : Nat} {room : Option Nat} {a hh : AV} (h : sliceSl size lo hi (some m) o v i len esz room = some a) (h0 : n0 = 0 → lo.getD 0 = 0) (hm : m ≤ len) (r2 : hh = .sl o v 0 len esz room) : tied n0 hh a := by
 intro hn
 have h0 := h0 hn
 subst r2
 unfold sliceSl at h
 split at h
 ·cases h
 rw [h0] at h
 unfold sliceSl' at h
 split at h
 ·cases h
 split at h
 ·cases h
 dsimp only at h
 split at h
 ·cases h
 split at h
 ·cases h
 cases h
 have hc : ∃ (i' n r : Nat), cutSl 0 (hi.getD len) m o v i esz = .sl o v i' n esz (some r) ∧ r ≤ m := by
  unfold cutSl
  cases Nat.beq 0 m with
  | true => exact ⟨_, _, 0, rfl, Nat.zero_le _⟩
  | false => exact ⟨_, _, m - 0, rfl, Nat.sub_le _ _⟩
 obtain ⟨i', n, r, e, hr⟩ := hc
 rw [e]
 exact .inr ⟨r, rfl, by omega⟩
theorem sliceSl_full {lo hi : Option Nat} {size o v i len esz m : Nat} {room : Option Nat} {a : AV} (h : sliceSl size lo hi (some m) o v i len esz room = some a) (h0 : lo.getD 0 = 0) (h1 : hi.getD len = m) (hm : 0 < m) : a = .sl o v i m esz (some m) := by
 unfold sliceSl at h
 split at h
 ·cases h
 rw [h0, h1] at h
 unfold sliceSl' at h
 split at h
 ·cases h
 split at h
 ·cases h
 dsimp only at h
 split at h
 ·cases h
 split at h
 ·cases h
 cases h
 unfold cutSl
 have hb : Nat.beq 0 m = false := by
  cases hb : Nat.beq 0 m with
  | false => rfl
  | true => have := Nat.eq_of_beq_eq_true hb; omega
 rw [hb]
 dsimp only
 rw [show Nat.add i (Nat.mul 0 esz) = i by show i + 0 * esz = i; omega, show Nat.sub m 0 = m from rfl]
theorem AR.lst' {l : List LV} {len esz : Nat} {a : AV} {o v i n : Nat} {l' : List AV} {j : Nat} (hf : c.Fz o) (hr : readAt c.H o v i n = some l') (hl : ARs c l l') (hle : j * esz + len * esz ≤ n)
  (ha : (len = 0 ∧ a = .emp) ∨ ∃ room, a = .sl o v (i + j * esz) len esz room ∧ ∀ r, room = some r → len ≤ r) : AR c (.lst ((l.drop (j * esz)).take (len * esz)) len esz) a := by
 have hn := readAt_length hr
 have hll := hl.length
 rcases ha with ⟨rfl, rfl⟩ | ⟨room, rfl, hrm⟩
 ·simp only [Nat.zero_mul, List.take_zero]; exact .lstEmp
 ·exact .lst hf hrm (by simp; omega) (readAt_sub hr hle) ((hl.drop _).take _)
theorem maxi_i (mx : Bool) (a b : Int) : foldMax mx (.int .i64 a) [.int .i64 b] = some (.int .i64 (match mx with | true => max a b | false => min a b)) := by
 have hk : kindEq .i64 .i64 = true := rfl
 simp only [foldMax, maxA, hk]
 cases mx with
 | true =>
  simp only [ltI_dec]
  by_cases h : a < b
  ·rw [decide_eq_true h]; simp only; congr 2; omega
  ·rw [decide_eq_false h]; simp only; congr 2; omega
 | false =>
  simp only [ltI_dec]
  by_cases h : b < a
  ·rw [decide_eq_true h]; simp only; congr 2; omega
  ·rw [decide_eq_false h]; simp only; congr 2; omega
theorem maxi_i3 (mx : Bool) (a b d : Int) : foldMax mx (.int .i64 a) [.int .i64 b, .int .i64 d] = some (.int .i64 (match mx with | true => max (max a b) d | false => min (min a b) d)) := by
 cases mx with
 | true =>
  have h1 := maxi_i true a b
  have h2 := maxi_i true (max a b) d
  simp only [foldMax] at h1 h2 ⊢
  cases hm : maxA true (.int .i64 a) (.int .i64 b) with
  | none => rw [hm] at h1; cases h1
  | some r =>
   rw [hm] at h1
   simp only [Option.some.injEq] at h1
   subst h1
   exact h2
 | false =>
  have h1 := maxi_i false a b
  have h2 := maxi_i false (min a b) d
  simp only [foldMax] at h1 h2 ⊢
  cases hm : maxA false (.int .i64 a) (.int .i64 b) with
  | none => rw [hm] at h1; cases h1
  | some r =>
   rw [hm] at h1
   simp only [Option.some.injEq] at h1
   subst h1
   exact h2
theorem maxi_u (mx : Bool) (a b : UInt64) : foldMax mx (.int .u64 (Int.ofNat a.toNat)) [.int .u64 (Int.ofNat b.toNat)] = some (.int .u64 (Int.ofNat (match mx with | true => if a < b then b else a | false => if b < a then b else a : UInt64).toNat)) := by
 have hk : kindEq .u64 .u64 = true := rfl
 simp only [foldMax, maxA, hk]
 cases mx with
 | true =>
  simp only [ltI_dec, dec_u_lt]
  by_cases h : a < b
  ·rw [decide_eq_true h, if_pos h]
  ·rw [decide_eq_false h, if_neg h]
 | false =>
  simp only [ltI_dec, dec_u_lt]
  by_cases h : b < a
  ·rw [decide_eq_true h, if_pos h]
  ·rw [decide_eq_false h, if_neg h]
theorem bytesA_map : ∀ l : List UInt8, convF.bytesA (l.map fun b => AV.int .u8 (Int.ofNat b.toNat)) = some (packL l)
 | [] => rfl
 | b :: l => by
  have hb := b.toNat_lt
  have h : Nat.blt b.toNat 256 = true := by unfold Nat.blt; exact Nat.ble_eq_true_of_le hb
  simp only [List.map_cons, convF.bytesA, h, if_true, bytesA_map l, packL]
theorem ARs_b : ∀ {bs : List UInt8} {l' : List AV}, ARs c (bs.map LV.b) l' → l' = bs.map fun b => AV.int .u8 (Int.ofNat b.toNat)
 | [], l', h => by cases h; rfl
 | b :: bs, l', h => by
  cases h with
  | cons h hs => cases h; rw [ARs_b hs]; rfl
theorem bytL_ok (hs : HSim c G) {x : LV} {a : AV} {K : List LV → Prop} (hx : AR c x a) (h : bytL G x K) : ∃ l l', ARs c l l' ∧ K l ∧ ((a = .nilSl ∧ l' = []) ∨ ∃ o v i room, a = .sl o v i l'.length 1 room ∧ readAt c.H o v i l'.length = some l') := by
 unfold bytL at h
 split at h
 ·cases hx; exact ⟨[], [], .nil, h, .inl ⟨rfl, rfl⟩⟩
 ·rename_i p k
  split at h
  ·rename_i l len esz ver st hg
   obtain ⟨hk0, rfl, h⟩ := h
   cases hx with
   | @dy _ _ k' hh _ e hk ha _ =>
    obtain ⟨r0, r1, r2⟩ := hs.obj p _ _ _ hg e
    have hha := ha (by omega)
    rcases r2 with ⟨r2, r3⟩ | ⟨o, v, room, t, clen, l', r2, r3, r4, r5, r6, _⟩
    ·subst r3
     have : l = [] := List.eq_nil_of_length_eq_zero (by simpa using r1)
     subst this
     exact ⟨[], [], .nil, h, .inl ⟨hha.trans r2, rfl⟩⟩
    ·have hl' : l'.length = len * 1 := by rw [← r6.length]; exact r1
     have hr := readAt_of (i := 0) (n := len * 1) r3 r5 r4 (by omega)
     rw [Nat.mul_one] at hl' hr
     refine ⟨l, l', r6, h, .inr ⟨o, v, 0, room, by rw [hha, r2, hl'], ?_⟩⟩
     rw [hl', hr, List.drop_zero, List.take_of_length_le (by omega)]
  ·exact h.elim
 ·rename_i l len esz
  obtain ⟨rfl, hne, h⟩ := h
  cases hx with
  | lst hf hrm hlen hr hl =>
   have hl' := readAt_length hr
   rw [Nat.mul_one] at hl' hr
   refine ⟨l, _, hl, h, .inr ⟨_, _, _, _, by rw [hl'], by rw [hl']; exact hr⟩⟩
  | lstNil => exact absurd rfl hne
  | lstEmp => exact absurd rfl hne
 ·exact h.elim
theorem OpL_ok (hs : HSim c G) {ρ : LEnv} {E : Tr AV} (hE : EnvL c ρ E) {o : LOp} (hok : o.ok = true) (h : OpL P ρ G o K) : OpRes P c G K (evR P (ρA E) c.H o.r) := by
 cases o with
 | move x => exact .same hs (Lx_ok hE hok) h
 | pick cc a b =>
  simp only [LOp.ok, Bool.and_eq_true] at hok
  have hc := Lx_ok hE hok.1.1
  have ha := Lx_ok hE hok.1.2
  have hb := Lx_ok hE hok.2
  simp only [OpL] at h
  simp only [LOp.r, evR]
  generalize cc.ev ρ = cv at h hc
  generalize cc.r.ev (ρA E) = ca at hc ⊢
  cases cv <;> first | exact h.elim | skip
  rename_i t
  cases hc
  dsimp only at h
  split at h
  ·rename_i x y hx hy
   rw [hx] at ha
   rw [hy] at hb
   cases t with
   | true => exact .same hs ha h
   | false => exact .same hs hb h
  ·cases t with
   | true => exact .same hs ha (h.1 rfl)
   | false => exact .same hs hb (h.2 rfl)
 | alloc l => exact newVarL_ok hs (scals_AR c hok) h
 | box x =>
  have hx := Lx_ok hE hok
  simp only [OpL] at h
  simp only [LOp.r, evR]
  split at h
  ·rename_i l hl
   obtain ⟨l', q1, q2⟩ := hx.cells hl
   rw [q1]
   exact newVarL_ok hs q2 h
  ·exact h.elim
 | build cs ps =>
  simp only [LOp.ok, Bool.and_eq_true] at hok
  simp only [OpL] at h
  simp only [LOp.r, evR]
  split at h
  ·rename_i l hl
   obtain ⟨l', q1, q2⟩ := fillL_ok hE hok.2 (scals_AR c hok.1) hl
   rw [q1]
   exact .same hs (.agg q2) h
  ·exact h.elim
 | buildSl size len cs ps =>
  simp only [LOp.ok, Bool.and_eq_true] at hok
  simp only [OpL] at h
  simp only [LOp.r, evR]
  split at h
  ·rename_i l hl
   obtain ⟨l', q1, q2⟩ := fillL_ok hE hok.2 (scals_AR c hok.1) hl
   rw [q1]
   exact newSlL_ok hs q2 h.1 (fun r e => by cases e; rfl) h.2
  ·exact h.elim
 | load1 x =>
  have hx := Lx_ok hE hok
  simp only [OpL] at h
  simp only [LOp.r, evR]
  obtain ⟨o, v, i, w, b, q1, q2, q3, q4⟩ := read1_ok hs hx h
  rw [q1]
  dsimp only
  rw [q2]
  exact .same hs q3 q4
 | loadN n x =>
  have hx := Lx_ok hE hok
  simp only [OpL] at h
  simp only [LOp.r, evR]
  obtain ⟨o, v, i, l', l, q1, q2, q3, q4⟩ := readL_ok hs hx h
  rw [q1]
  dsimp only
  rw [q2]
  exact .same hs (.agg q3) q4
 | store n x y =>
  simp only [LOp.ok, Bool.and_eq_true] at hok
  have hx := Lx_ok hE hok.1
  have hy := Lx_ok hE hok.2
  simp only [OpL] at h
  simp only [LOp.r, evR]
  split at h
  ·rename_i l hl
   obtain ⟨l', p1, p2⟩ := hy.cells hl
   obtain ⟨o, v, i, H', c', G', q1, q2, q3, q4, q5, q6⟩ := writeL_ok hs hx p2 h.2
   rw [q1]
   dsimp only
   rw [p1]
   dsimp only
   have hb : Nat.beq l'.length n = true := by rw [← p2.length, h.1]; exact Nat.beq_refl _
   rw [hb]
   dsimp only
   rw [q2]
   exact ⟨c', .tup [], G', q3, q4, q5, .tup .nil, q6⟩
  ·exact h.elim
 | nilChk x =>
  have hx := Lx_ok hE hok
  simp only [OpL] at h
  simp only [LOp.r, evR]
  generalize x.ev ρ = v at h hx
  generalize x.r.ev (ρA E) = a at hx ⊢
  split at h
  ·have h0 := hx
   cases hx
   exact .same hs h0 h
  ·have h0 := hx
   cases hx
   exact .same hs h0 h
  ·have h0 := hx
   cases hx
   exact .same hs h0 h
  ·have h0 := hx
   cases hx
   exact .same hs h0 h
  ·exact h.elim
 | bin op g t x y =>
  simp only [LOp.ok, Bool.and_eq_true] at hok
  exact .ret hs (binL_ok (Lx_ok hE hok.1) (Lx_ok hE hok.2) h)
 | un op x => exact .ret hs (unL_ok (Lx_ok hE hok) h)
 | cvInt k x =>
  obtain ⟨k', n, q1, v, q2, q3⟩ := cvL_ok (Lx_ok hE hok) (show cvL k (x.ev ρ) (fun v => K v G) from h)
  simp only [LOp.r, evR]
  rw [q1]
  exact .same hs q2 q3
 | cvStr x =>
  have hx := Lx_ok hE hok
  simp only [OpL] at h
  simp only [LOp.r, evR]
  obtain ⟨l, l', q1, ⟨bs, rfl, q2⟩, q3⟩ := bytL_ok hs hx h
  have hl' := ARs_b q1
  rcases q3 with ⟨q3, q4⟩ | ⟨o, v, i, room, q3, q4⟩
  ·rw [q3]
   rw [q4] at hl'
   have : bs = [] := by cases bs with
    | nil => rfl
    | cons _ _ => cases hl'
   subst this
   exact .same hs (.str []) q2
  ·rw [q3]
   show OpRes P c G K (match readAt c.H o v i l'.length with
    | some r => match convF.bytesA r with
     | some n => OR.val (.str l'.length n) c.H
     | none => .no
    | none => .no)
   rw [q4]
   dsimp only
   rw [hl', bytesA_map]
   dsimp only
   exact .same hs (.str' (by simp) rfl) q2
 | cvSame x =>
  have hx := Lx_ok hE hok
  simp only [OpL] at h
  simp only [LOp.r, evR]
  generalize x.ev ρ = v at h hx
  generalize x.r.ev (ρA E) = a at hx ⊢
  split at h
  ·cases hx; exact .same hs (.str _) h
  ·exact h.elim
 | cvBytes x =>
  have hx := Lx_ok hE hok
  simp only [OpL] at h
  simp only [LOp.r, evR]
  generalize x.ev ρ = v at h hx
  generalize x.r.ev (ρA E) = a at hx ⊢
  split at h
  ·rename_i l
   cases hx
   exact newSlL_ok hs (unpack_u8 l c) (by simp) (fun r e => by cases e) h
  ·exact h.elim
 | mkFunc f a b =>
  simp only [LOp.ok, Bool.and_eq_true] at hok
  exact .same hs (.fn (Lxs_ok hE hok.1) (Lxs_ok hE hok.2)) h
 | mkSl size z l cc =>
  simp only [LOp.ok, Bool.and_eq_true] at hok
  have hl := Lx_ok hE hok.1.2
  have hc := Lx_ok hE hok.2
  simp only [OpL] at h
  simp only [LOp.r, evR]
  generalize l.ev ρ = lv at h hl
  generalize l.r.ev (ρA E) = la at hl ⊢
  generalize cc.ev ρ = cv at h hc
  generalize cc.r.ev (ρA E) = ca at hc ⊢
  split at h
  ·rename_i n m
   obtain ⟨rfl, h1, h2, h3, h4⟩ := h
   cases hl; cases hc
   obtain ⟨k, rfl⟩ := Int.eq_ofNat_of_zero_le h1
   have b1 : Nat.ble k k = true := Nat.ble_eq_true_of_le (Nat.le_refl _)
   have b2 : Nat.ble k 1048576 = true := Nat.ble_eq_true_of_le (by omega)
   show OpRes P c G K (match Nat.ble k k with
    | true => match Nat.ble k 1048576 with
     | true => match newObj c.H (repeatL (toAs z) k) with
      | some (o, H') => OR.val (.sl o 0 0 k size (some k)) H'
      | none => .no
     | false => .no
    | false => .no)
   rw [b1, b2]
   exact newSlL_ok hs ((scals_AR c hok.1.1).rep k) (by rw [repL_length, h3]) (fun r e => by cases e; rfl) h4
  ·exact h.elim
 | slStr x lo hi =>
  simp only [LOp.ok, Bool.and_eq_true] at hok
  have hx := Lx_ok hE hok.1.1
  simp only [OpL] at h
  simp only [LOp.r, evR]
  generalize x.ev ρ = v at h hx
  generalize x.r.ev (ρA E) = a at hx ⊢
  split at h
  ·rename_i l
   cases hx
   obtain ⟨rlo, nlo, q1, q2, q3⟩ := bndL_ok hE hok.1.2 h
   obtain ⟨rhi, nhi, q4, q5, h1, h2, h3⟩ := bndL_ok hE hok.2 q3
   rw [q1, q4]
   dsimp only
   rw [q2, q5]
   have b1 : Nat.ble nlo nhi = true := Nat.ble_eq_true_of_le h1
   have b2 : Nat.ble nhi l.length = true := Nat.ble_eq_true_of_le h2
   rw [b1, b2]
   dsimp only
   refine .same hs (.str' (by simp; omega) ?_) h3
   rw [packL_take, packL_drop]
   rfl
  ·exact h.elim
 | slSl size x lo hi =>
  simp only [LOp.ok, Bool.and_eq_true] at hok
  have hx := Lx_ok hE hok.1.1
  simp only [OpL] at h
  simp only [LOp.r, evR]
  have hmx : optR (ρA E) none = some none := rfl
  rw [hmx]
  split at h
  ·rename_i hv
   rw [hv] at hx
   generalize x.r.ev (ρA E) = a at hx ⊢
   cases hx
   obtain ⟨rlo, nlo, q1, q2, q3⟩ := bndL_ok hE hok.1.2 h
   obtain ⟨rhi, nhi, q4, q5, h1, h2, h3⟩ := bndL_ok hE hok.2 q3
   rw [q1, q4]
   dsimp only
   rw [q2, q5, h1, h2]
   exact .same hs .nilSl h3
  ·rename_i p k hv
   rw [hv] at hx
   generalize x.r.ev (ρA E) = a at hx ⊢
   split at h
   ·rename_i l len esz ver st hg
    obtain ⟨hk0, rfl, h⟩ := h
    obtain ⟨rlo, nlo, q1, q2, q3⟩ := bndL_ok hE hok.1.2 h
    obtain ⟨rhi, nhi, q4, q5, h1, h2, h3⟩ := bndL_ok hE hok.2 q3
    rw [q1, q4]
    cases hx with
    | @dy _ _ k' hh _ e hk ha _ =>
     obtain ⟨r0, r1, r2⟩ := hs.obj p _ _ _ hg e
     have hha := ha (by omega)
     rcases r2 with ⟨r2, r3⟩ | ⟨o, v, room, t, clen, l', r2, r3, r4, r5, r6, r7, r8⟩
     ·subst r3
      have e1 : nlo = 0 := by omega
      have e2 : nhi = 0 := by omega
      subst e1 e2
      rw [hha, r2]
      dsimp only
      rw [q2, show rhi.getD 0 = 0 from q5]
      exact .same hs (.vw e hk (fun _ => .inl ⟨rfl, .inl rfl⟩) rfl (fun _ _ => trivial)) h3
     ·obtain ⟨a2, p1, p2, p3⟩ := sliceSl_any (lo := rlo) (hi := rhi) (o := o) (v := v) (i := 0) (esz := esz) (len := len) (room := room) (by rw [q2, q5]; exact h1) (by rw [q5]; exact h2) (fun r e' => (r7 r e').2)
      rw [hha, r2]
      dsimp only
      rw [p1]
      rw [q2, q5, Nat.zero_add] at p3
      refine .same hs (.vw e hk (fun _ => ?_) p2 (fun _ => sliceSl_tied p1 (fun h0 => by rw [q2]; exact h0) r2)) h3
      rcases p3 with ⟨p3, p4, p5⟩ | ⟨room', p4⟩
      ·exact .inl ⟨p3, .inr ⟨p4, p5⟩⟩
      ·exact .inr ⟨o, v, len, esz, room, room', r2, p4⟩
   ·exact h.elim
  ·rename_i p k l0 len hv
   rw [hv] at hx
   generalize x.r.ev (ρA E) = a at hx ⊢
   split at h
   ·rename_i l len0 esz ver st hg
    obtain ⟨hk0, rfl, h⟩ := h
    obtain ⟨rlo, nlo, q1, q2, q3⟩ := bndL_ok hE hok.1.2 h
    obtain ⟨rhi, nhi, q4, q5, h1, h2, h3⟩ := bndL_ok hE hok.2 q3
    rw [q1, q4]
    cases hx with
    | @vw _ _ _ _ k' hh _ e hk ha _ hz =>
     have hkv := (hs.obj p _ _ _ hg e).1
     rcases ha (by omega) with ⟨r3, r4⟩ | ⟨o, v, len', esz', room, room', r3, r4, r9⟩
     ·subst r3
      have e1 : nlo = 0 := by omega
      have e2 : nhi = 0 := by omega
      subst e1 e2
      rcases r4 with rfl | ⟨rfl, r5⟩
      ·dsimp only
       rw [q2, show rhi.getD 0 = 0 from q5]
       exact .same hs (.vw e hk (fun _ => .inl ⟨rfl, .inl rfl⟩) rfl (fun _ _ => trivial)) h3
      ·dsimp only
       rw [q2, show rhi.getD 0 = 0 from q5]
       exact .same hs (.vw e hk (fun _ => .inl ⟨rfl, .inr ⟨rfl, r5⟩⟩) rfl (fun _ _ => trivial)) h3
     ·subst r3
      obtain ⟨_, w1, w2, w3, _⟩ := dyn_at hs hg e
      subst w2 w3
      obtain ⟨a2, p1, p2, p3⟩ := sliceSl_any (lo := rlo) (hi := rhi) (o := o) (v := v) (i := l0 * esz') (esz := esz') (len := len) (room := room') (by rw [q2, q5]; exact h1) (by rw [q5]; exact h2) r9
      rw [r4]
      dsimp only
      rw [p1]
      rw [q2, q5] at p3
      refine .same hs (.vw e hk (fun _ => ?_) p2 (fun q => sliceSl_tied2 p1 (fun h0 => ⟨by rw [q2]; omega, by omega⟩) (r4 ▸ hz q))) h3
      rcases p3 with ⟨p3, p4, p6⟩ | ⟨room2, p4, p5⟩
      ·exact .inl ⟨p3, .inr ⟨p4, by omega⟩⟩
      ·exact .inr ⟨o, v, _, esz', room, room2, rfl, by rw [p4, Nat.add_mul], p5⟩
   ·exact h.elim
  ·rename_i l len esz hv
   rw [hv] at hx
   generalize x.r.ev (ρA E) = a at hx ⊢
   obtain ⟨rfl, h⟩ := h
   obtain ⟨rlo, nlo, q1, q2, q3⟩ := bndL_ok hE hok.1.2 h
   obtain ⟨rhi, nhi, q4, q5, h1, h2, h3⟩ := bndL_ok hE hok.2 q3
   rw [q1, q4]
   have hnil : len = 0 → l = [] → K (.lst [] 0 esz) G := fun e1 e2 => by
    have e3 : nlo = 0 := by omega
    have e4 : nhi = 0 := by omega
    subst e2 e3 e4
    simpa using h3
   cases hx with
   | lst hf hrm hlen hr hl =>
    obtain ⟨a2, p1, p2, p3⟩ := sliceSl_any (lo := rlo) (hi := rhi) (by rw [q2, q5]; exact h1) (by rw [q5]; exact h2) hrm
    dsimp only
    rw [p1]
    rw [q2, q5] at p3
    refine .same hs (.lst' hf hr hl ?_ (p3.imp (fun h => ⟨h.1, h.2.1⟩) id)) h3
    rw [← Nat.add_mul]
    exact Nat.mul_le_mul_right _ (by omega)
   | lstNil =>
    have e3 : nlo = 0 := by omega
    have e4 : nhi = 0 := by omega
    dsimp only
    rw [q2, show rhi.getD 0 = nhi from q5, e3, e4]
    exact .same hs .lstNil (hnil rfl rfl)
   | lstEmp =>
    have e3 : nlo = 0 := by omega
    have e4 : nhi = 0 := by omega
    dsimp only
    rw [q2, show rhi.getD 0 = nhi from q5, e3, e4]
    exact .same hs .lstEmp (hnil rfl rfl)
  ·exact h.elim
 | slSl3 size x lo hi mx =>
  simp only [LOp.ok, Bool.and_eq_true] at hok
  have hx := Lx_ok hE hok.1.1.1
  have hmo : optOk (some mx) = true := hok.2
  simp only [OpL] at h
  simp only [LOp.r, evR]
  split at h
  ·rename_i p k hv
   rw [hv] at hx
   generalize x.r.ev (ρA E) = a at hx ⊢
   split at h
   ·rename_i l len esz ver st hg
    obtain ⟨hk0, rfl, h⟩ := h
    obtain ⟨rlo, nlo, q1, q2, q3⟩ := bndL_ok hE hok.1.1.2 h
    obtain ⟨rhi, nhi, q4, q5, q6⟩ := bndL_ok hE hok.1.2 q3
    obtain ⟨rmx, nmx, q7, q8, h0, h1, h2, h3, h4⟩ := bndL_ok hE hmo q6
    simp only [Option.map_some] at q7
    rw [q1, q4, q7]
    cases hx with
    | @dy _ _ k' hh _ e hk ha _ =>
     obtain ⟨r0, r1, r2⟩ := hs.obj p _ _ _ hg e
     have hha := ha (by omega)
     have hmx : rmx = some nmx := by
      cases rmx with
      | none => unfold optR at q7; dsimp only at q7; split at q7 <;> cases q7
      | some m => simp at q8; rw [q8]
     rcases r2 with ⟨r2, r3⟩ | ⟨o, v, room, t, clen, l', r2, r3, r4, r5, r6, r7, r8⟩
     ·omega
     ·obtain ⟨a2, p1, p2, p3⟩ := sliceSl_any3 (lo := rlo) (hi := rhi) (o := o) (v := v) (i := 0) (esz := esz) (len := len) (room := room) (m := nmx) (by rw [q2, q5]; exact h1) (by rw [q5]; exact h2) h3 (fun r e' => (r7 r e').2)
      rw [hha, r2, hmx]
      dsimp only
      rw [p1]
      rw [q2, q5, Nat.zero_add] at p3
      unfold fullV at h4
      split at h4
      ·rename_i hful
       obtain ⟨f1, f2, f3⟩ := of_decide_eq_true hful
       have hc := sliceSl_full p1 (by rw [q2]; exact f1) (by rw [q5]; exact f2) (by omega)
       exact .same hs (.vf e hk (fun _ => ⟨o, v, len, esz, room, r2, by rw [hc, f2]⟩) p2) h4
      refine .same hs (.vw e hk (fun _ => ?_) p2 (fun _ => sliceSl_tied3 p1 (fun h0 => by rw [q2]; exact h0) h3 r2)) h4
      rcases p3 with ⟨p3, p4, p5⟩ | ⟨room', p4⟩
      ·exact .inl ⟨p3, .inr ⟨p4, p5⟩⟩
      ·exact .inr ⟨o, v, len, esz, room, room', r2, p4⟩
   ·exact h.elim
  ·rename_i l len esz hv
   rw [hv] at hx
   generalize x.r.ev (ρA E) = a at hx ⊢
   obtain ⟨rfl, h⟩ := h
   obtain ⟨rlo, nlo, q1, q2, q3⟩ := bndL_ok hE hok.1.1.2 h
   obtain ⟨rhi, nhi, q4, q5, q6⟩ := bndL_ok hE hok.1.2 q3
   obtain ⟨rmx, nmx, q7, q8, h0, h1, h2, h3, h4⟩ := bndL_ok hE hmo q6
   simp only [Option.map_some] at q7
   rw [q1, q4, q7]
   have hmx : rmx = some nmx := by
    cases rmx with
    | none => unfold optR at q7; dsimp only at q7; split at q7 <;> cases q7
    | some m => simp at q8; rw [q8]
   cases hx with
   | lst hf hrm hlen hr hl =>
    obtain ⟨a2, p1, p2, p3⟩ := sliceSl_any3 (lo := rlo) (hi := rhi) (m := nmx) (by rw [q2, q5]; exact h1) (by rw [q5]; exact h2) h3 hrm
    rw [hmx]
    dsimp only
    rw [p1]
    rw [q2, q5] at p3
    refine .same hs (.lst' hf hr hl ?_ (p3.imp (fun h => ⟨h.1, h.2.1⟩) id)) h4
    rw [← Nat.add_mul]
    exact Nat.mul_le_mul_right _ (by omega)
   | lstNil => omega
   | lstEmp => omega
  ·exact h.elim
 | fieldAddr off x =>
  have hx := Lx_ok hE hok
  simp only [OpL] at h
  simp only [LOp.r, evR]
  generalize x.ev ρ = v at h hx
  generalize x.r.ev (ρA E) = a at hx ⊢
  split at h
  ·cases hx with
   | ptr e => exact .same hs (.ptr e) h
  ·cases hx with
   | dptr e hk ha => exact .same hs (.dptr e hk (fun q => ⟨by rw [(ha q).1]; rfl, (ha q).2⟩)) h
  ·cases hx with
   | cptr hf hr hl =>
    dsimp only
    rw [show ∀ a b c : Nat, Nat.add (a + b) c = a + (b + c) from fun a b c => Nat.add_assoc a b c]
    exact .same hs (.cptr hf hr hl) h
  ·exact h.elim
 | field g n off x =>
  have hx := Lx_ok hE hok
  simp only [OpL] at h
  simp only [LOp.r, evR]
  generalize x.ev ρ = v at h hx
  generalize x.r.ev (ρA E) = a at hx ⊢
  split at h
  ·rename_i l
   cases hx with
   | agg hl =>
    dsimp only
    cases g with
    | true =>
     obtain ⟨h1, h2⟩ := h
     have hll := hl.length
     rename_i l'
     have b1 : Nat.ble (Nat.add off n) l'.length = true := Nat.ble_eq_true_of_le (show off + n ≤ l'.length by rw [← hll]; exact h1)
     refine .ret hs ?_
     simp only [partA, sub1, b1]
     exact .mk (.agg ((hl.drop off).take n)) h2
    | false =>
     obtain ⟨v, hv, h⟩ := h
     obtain ⟨a, q1, q2⟩ := hl.get hv
     refine .ret hs ?_
     simp only [partA]
     rw [q1]
     exact .mk q2 h
  ·exact h.elim
 | ixAddr size x i =>
  simp only [LOp.ok, Bool.and_eq_true] at hok
  have hx := Lx_ok hE hok.1
  have hi := Lx_ok hE hok.2
  simp only [OpL] at h
  simp only [LOp.r, evR]
  generalize i.ev ρ = iv at h hi
  generalize i.r.ev (ρA E) = ia at hi ⊢
  generalize x.ev ρ = v at h hx
  generalize x.r.ev (ρA E) = a at hx ⊢
  have main : ∀ {kk : IntKind} {n : Int} (v : LV) (a : AV), AR c v a → ixO G size v n (fun v => K v G) → OpRes P c G K (match a, AV.int kk n with
     | .sl o v i len esz _, .int _ (.ofNat n) => match Nat.blt n len with
      | true => match Nat.beq esz size with
       | true => .val (.ptr o v (Nat.add i (Nat.mul n esz))) c.H
       | false => .no
      | false => .no
     | _, _ => .no) := by
   clear h hx
   intro kk n v a hx h
   unfold ixO at h
   have key : ∀ {o v j len esz : Nat} {room : Option Nat} {m : Nat} {y : LV}, m < len → esz = size → AR c y (.ptr o v (j + m * esz)) → K y G → OpRes P c G K (match AV.sl o v j len esz room, AV.int kk (Int.ofNat m) with
     | .sl o v i len esz _, .int _ (.ofNat n) => match Nat.blt n len with
      | true => match Nat.beq esz size with
       | true => .val (.ptr o v (Nat.add i (Nat.mul n esz))) c.H
       | false => .no
      | false => .no
     | _, _ => .no) := by
    intro o v j len esz room m y h1 h2 h3 h4
    subst h2
    have b1 : Nat.blt m len = true := by unfold Nat.blt; exact Nat.ble_eq_true_of_le h1
    dsimp only
    rw [b1, Nat.beq_refl]
    exact .same hs h3 h4
   split at h
   ·rename_i p k
    split at h
    ·rename_i l len esz ver st hg
     obtain ⟨hk0, rfl, h1, h2, h3⟩ := h
     obtain ⟨m, rfl⟩ := Int.eq_ofNat_of_zero_le h1
     cases hx with
     | @dy _ _ k' hh _ e hk ha _ =>
      obtain ⟨r0, r1, r2⟩ := hs.obj p _ _ _ hg e
      have hha := ha (by omega)
      rcases r2 with ⟨r2, r3⟩ | ⟨o, v, room, t, clen, l', r2, _⟩
      ·omega
      ·rw [hha, r2]
       refine key (room := room) (y := .dptr p k (m * esz)) (by omega) rfl (.dptr e hk (fun _ => ⟨by rw [Nat.zero_add], len, esz, room, r2⟩)) h3
    ·exact h.elim
   ·rename_i p k lo len
    split at h
    ·rename_i l len0 esz ver st hg
     obtain ⟨hk0, rfl, h1, h2, h3⟩ := h
     obtain ⟨m, rfl⟩ := Int.eq_ofNat_of_zero_le h1
     cases hx with
     | @vw _ _ _ _ k' hh _ e hk ha _ _ =>
      have hkv := (hs.obj p _ _ _ hg e).1
      rcases ha (by omega) with ⟨r3, r4⟩ | ⟨o, v, len', esz', room, room', r3, r4, r9⟩
      ·omega
      ·have e2 := e
       rw [r3] at e2
       obtain ⟨_, w1, w2, w3, _⟩ := dyn_at hs hg e2
       subst w2 w3
       rw [r4]
       refine key (room := room') (y := .dptr p k ((lo + m) * esz')) (by omega) rfl (.dptr e hk (fun _ => ⟨by rw [Nat.add_mul], len', esz', room, r3⟩)) h3
    ·exact h.elim
   ·rename_i l len esz
    obtain ⟨rfl, h1, h2, h3⟩ := h
    obtain ⟨m, rfl⟩ := Int.eq_ofNat_of_zero_le h1
    cases hx with
    | @lst _ _ _ _ _ _ rm _ hf hrm hlen hr hl =>
     refine key (room := rm) (y := .cptr l (m * esz)) (by omega) rfl ?_ h3
     rw [← hlen] at hr
     exact .cptr hf hr hl
    | lstNil => omega
    | lstEmp => omega
   ·exact h.elim
  split at h
  ·cases hi; exact main v a hx h
  ·cases hi; exact main v a hx h
  ·exact h.elim
 | ixStr x i =>
  simp only [LOp.ok, Bool.and_eq_true] at hok
  have hx := Lx_ok hE hok.1
  have hi := Lx_ok hE hok.2
  simp only [OpL] at h
  simp only [LOp.r, evR]
  generalize i.ev ρ = iv at h hi
  generalize i.r.ev (ρA E) = ia at hi ⊢
  generalize x.ev ρ = v at h hx
  generalize x.r.ev (ρA E) = a at hx ⊢
  have key : ∀ {l : List UInt8} {k : IntKind} {m : Nat}, m < l.length → K (.b (l.getD m 0)) G → OpRes P c G K (match AV.str l.length (packL l), AV.int k (Int.ofNat m) with
    | .str len n, .int _ (.ofNat i) => match Nat.blt i len with
     | true => .val (.int .u8 (Int.ofNat (Nat.mod (Nat.div n (Nat.pow 256 i)) 256))) c.H
     | false => .no
    | _, _ => .no) := by
   intro l k m h1 h2
   have b1 : Nat.blt m l.length = true := by unfold Nat.blt; exact Nat.ble_eq_true_of_le h1
   dsimp only
   rw [b1]
   refine .same hs (.b' ?_) h2
   have := packL_get (List.getElem?_eq_getElem h1)
   show Int.ofNat (packL l / 256 ^ m % 256) = _
   rw [this, List.getD_eq_getElem?_getD, List.getElem?_eq_getElem h1]
   rfl
  split at h
  ·rename_i l n
   obtain ⟨h1, h2, h3⟩ := h
   obtain ⟨m, rfl⟩ := Int.eq_ofNat_of_zero_le h1
   cases hx; cases hi
   exact key (k := .i64) (by omega) h3
  ·rename_i l n
   obtain ⟨h2, h3⟩ := h
   cases hx; cases hi
   exact key (k := .u64) h2 h3
  ·rename_i l n
   obtain ⟨h2, h3⟩ := h
   cases hx; cases hi
   exact key (k := .u8) h2 h3
  ·exact h.elim
 | extract i x =>
  have hx := Lx_ok hE hok
  simp only [OpL] at h
  simp only [LOp.r, evR]
  generalize x.ev ρ = v at h hx
  generalize x.r.ev (ρA E) = a at hx ⊢
  split at h
  ·rename_i l
   cases hx with
   | tup hl =>
    dsimp only
    obtain ⟨v, hv, h⟩ := h
    obtain ⟨a, q1, q2⟩ := hl.get hv
    refine .ret hs ?_
    rw [q1]
    exact .mk q2 h
  ·exact h.elim
 | lenStr x =>
  have hx := Lx_ok hE hok
  simp only [OpL] at h
  simp only [LOp.r, evR]
  generalize x.ev ρ = v at h hx
  generalize x.r.ev (ρA E) = a at hx ⊢
  split at h
  ·cases hx; exact .same hs (.i _) h
  ·exact h.elim
 | lenSl x =>
  obtain ⟨n, q1, q2⟩ := lenL_ok hs (Lx_ok hE hok) (show lenL G (x.ev ρ) (fun n => K (.i n) G) from h)
  simp only [LOp.r, evR]
  rcases q2 with ⟨q2, rfl⟩ | ⟨q2, rfl⟩ | ⟨o, v, i, esz, room, q2⟩
  ·rw [q2]; exact .same hs (.i 0) q1
  ·rw [q2]; exact .same hs (.i 0) q1
  ·rw [q2]; exact .same hs (.i n) q1
 | maxi mx x y =>
  simp only [LOp.ok, Bool.and_eq_true] at hok
  have hx := Lx_ok hE hok.1
  have hy := Lx_ok hE hok.2
  simp only [OpL] at h
  simp only [LOp.r, evR, List.map_cons, List.map_nil]
  generalize y.ev ρ = yv at h hy
  generalize y.r.ev (ρA E) = ya at hy ⊢
  generalize x.ev ρ = v at h hx
  generalize x.r.ev (ρA E) = a at hx ⊢
  split at h
  ·cases hx; cases hy
   dsimp only
   rw [maxi_i]
   exact .same hs (.i _) h
  ·cases hx; cases hy
   dsimp only
   rw [maxi_u]
   exact .same hs (.u _) h
  ·exact h.elim
 | max3 mx x y z =>
  simp only [LOp.ok, Bool.and_eq_true] at hok
  have hx := Lx_ok hE hok.1.1
  have hy := Lx_ok hE hok.1.2
  have hz := Lx_ok hE hok.2
  simp only [OpL] at h
  simp only [LOp.r, evR, List.map_cons, List.map_nil]
  generalize z.ev ρ = zv at h hz
  generalize z.r.ev (ρA E) = za at hz ⊢
  generalize y.ev ρ = yv at h hy
  generalize y.r.ev (ρA E) = ya at hy ⊢
  generalize x.ev ρ = v at h hx
  generalize x.r.ev (ρA E) = a at hx ⊢
  cases v <;> first | exact h.elim | skip
  cases yv <;> first | exact h.elim | skip
  cases zv <;> first | exact h.elim | skip
  cases hx; cases hy; cases hz
  dsimp only
  rw [maxi_i3]
  exact .same hs (.i _) h
 | ixAddrArr len size x i =>
  simp only [LOp.ok, Bool.and_eq_true] at hok
  have hx := Lx_ok hE hok.1
  have hi := Lx_ok hE hok.2
  simp only [OpL] at h
  simp only [LOp.r, evR]
  generalize i.ev ρ = iv at h hi
  generalize i.r.ev (ρA E) = ia at hi ⊢
  generalize x.ev ρ = v at h hx
  generalize x.r.ev (ρA E) = a at hx ⊢
  cases iv <;> first | exact h.elim | skip
  cases hi
  obtain ⟨h1, h2, h⟩ := h
  rename_i n
  obtain ⟨m, rfl⟩ := Int.eq_ofNat_of_zero_le h1
  have b1 : Nat.blt m len = true := by unfold Nat.blt; exact Nat.ble_eq_true_of_le (by omega)
  cases v <;> first | exact h.elim | skip
  ·cases hx with
   | ptr e =>
    show OpRes P c G K (match Nat.blt m len with | true => _ | false => _)
    rw [b1]
    refine .same hs ?_ h
    have e0 := AR.ptr (i := 0) e
    rename_i p j o
    show AR c (.ptr p (j + m * size)) (.ptr o 0 (j + m * size))
    exact .ptr e
  ·cases hx with
   | dptr e hk ha =>
    show OpRes P c G K (match Nat.blt m len with | true => _ | false => _)
    rw [b1]
    exact .same hs (.dptr e hk (fun q => ⟨by rw [(ha q).1]; rfl, (ha q).2⟩)) h
  ·cases hx with
   | cptr hf hr hl =>
    show OpRes P c G K (match Nat.blt m len with | true => _ | false => _)
    rw [b1]
    refine .same hs ?_ h
    rename_i o vv jj ll
    rw [show Nat.add (jj + _) (Nat.mul m size) = jj + (_ + m * size) from Nat.add_assoc _ _ _]
    exact .cptr hf hr hl
 | ixArr g len size x i =>
  simp only [LOp.ok, Bool.and_eq_true] at hok
  have hx := Lx_ok hE hok.1
  have hi := Lx_ok hE hok.2
  simp only [OpL] at h
  simp only [LOp.r, evR]
  generalize i.ev ρ = iv at h hi
  generalize i.r.ev (ρA E) = ia at hi ⊢
  generalize x.ev ρ = v at h hx
  generalize x.r.ev (ρA E) = a at hx ⊢
  cases iv <;> first | exact h.elim | skip
  cases hi
  obtain ⟨h1, h2, h⟩ := h
  rename_i n
  obtain ⟨m, rfl⟩ := Int.eq_ofNat_of_zero_le h1
  have b1 : Nat.blt m len = true := by unfold Nat.blt; exact Nat.ble_eq_true_of_le (by omega)
  cases v <;> first | exact h.elim | skip
  cases hx with
  | agg hl =>
   show OpRes P c G K (match Nat.blt m len with | true => _ | false => _)
   rw [b1]
   simp only [Int.toNat_natCast] at h
   cases g with
   | true =>
    obtain ⟨h1, h2⟩ := h
    have hll := hl.length
    rename_i l'
    have b2 : Nat.ble (Nat.add (Nat.mul m size) size) l'.length = true := Nat.ble_eq_true_of_le (show m * size + size ≤ l'.length by rw [← hll]; exact h1)
    refine .ret hs ?_
    simp only [partA, sub1, b2]
    exact .mk (.agg ((hl.drop _).take _)) h2
   | false =>
    obtain ⟨v, hv, h⟩ := h
    obtain ⟨a, q1, q2⟩ := hl.get hv
    refine .ret hs ?_
    simp only [partA]
    show VRes c _ (_)
    rw [show Nat.mul m size = m * size from rfl, q1]
    exact .mk q2 h
 | lenArr n x =>
  simp only [OpL] at h
  simp only [LOp.r, evR]
  exact .same hs (.i _) h
 | appZ size z s x =>
  simp only [LOp.ok, Bool.and_eq_true] at hok
  have hz := scals_AR c hok.1.1
  have hss := Lx_ok hE hok.1.2
  have hx := Lx_ok hE hok.2
  simp only [OpL] at h
  simp only [LOp.r, evR]
  generalize x.ev ρ = v at h hx
  generalize x.r.ev (ρA E) = a at hx ⊢
  split at h
  ·rename_i n
   obtain ⟨h1, h2, h3, h4⟩ := h
   obtain ⟨m, rfl⟩ := Int.eq_ofNat_of_zero_le h1
   cases hx
   have b1 : Nat.ble m 1048576 = true := Nat.ble_eq_true_of_le (by omega)
   show OpRes P c G K (match Nat.ble m 1048576 with
    | true => appendA c.H size (s.r.ev (ρA E)) m (repeatL (toAs z) m)
    | false => .no)
   rw [b1]
   exact appL_ok hs hss (hz.rep m) (by rw [repL_length, h3]) h4
  ·exact h.elim
 | appG size s x =>
  simp only [LOp.ok, Bool.and_eq_true] at hok
  have hss := Lx_ok hE hok.1
  have hx := Lx_ok hE hok.2
  simp only [OpL] at h
  simp only [LOp.r, evR]
  obtain ⟨n, l, l', q1, q2, q3, q4, q5⟩ := rowL_ok hs hx h
  rw [q1]
  have b1 : Nat.ble n 1048576 = true := Nat.ble_eq_true_of_le q4
  dsimp only
  rw [b1]
  exact appL_ok hs hss q2 q3 q5
 | copy size d x =>
  simp only [LOp.ok, Bool.and_eq_true] at hok
  have hd := Lx_ok hE hok.1
  have hx := Lx_ok hE hok.2
  simp only [OpL] at h
  simp only [LOp.r, evR]
  obtain ⟨n, l, l', q1, q2, q3, q4⟩ := rowL_ok hs hx h
  rw [q1]
  dsimp only
  have hmin : ∀ a b : Nat, minN a b = min a b := fun a b => by
   unfold minN
   cases hb : Nat.ble a b with
   | true => have := Nat.le_of_ble_eq_true hb; simp only; omega
   | false =>
    have : ¬ a ≤ b := fun q => by rw [Nat.ble_eq_true_of_le q] at hb; cases hb
    simp only; omega
  generalize d.ev ρ = v at q4 hd
  generalize d.r.ev (ρA E) = a at hd ⊢
  split at q4
  ·rename_i p k
   split at q4
   ·rename_i r len esz ver st hg
    obtain ⟨hk0, rfl, h⟩ := q4
    cases hd with
    | @dy _ _ k' hh _ e hk ha _ =>
     obtain ⟨r0, r1, r2⟩ := hs.obj p _ _ _ hg e
     have hha := ha (by omega)
     rcases r2 with ⟨r2, r3⟩ | ⟨o, v, room, t, clen, r', r2, r3⟩
     ·subst r3
      have : r = [] := List.eq_nil_of_length_eq_zero (by simpa using r1)
      subst this
      rw [hha, r2]
      dsimp only
      have hm : min n 0 = 0 := by omega
      rw [hm] at h
      simp only [Nat.zero_mul, List.take_zero] at h
      obtain ⟨p1, p2, _⟩ := hs.upd (k' := k') (x' := hh) (ob' := .dyn (layLV [] 0 []) 0 esz ver (st + 1)) (H' := c.H) hg rfl e (Nat.le_refl _) (fun _ _ _ => rfl) (fun o e' => ⟨.inl e', hs.lt o ⟨p, _, _, _, hg, rfl, e, e'⟩⟩) (Nat.le_refl _) (fun _ => rfl) (fun _ => rfl) (.inl (Nat.lt_succ_self _))
       (fun _ => ⟨r0, by simp [layLV], .inl ⟨r2, rfl⟩⟩)
      exact ⟨⟨c.hd.set p (k', hh), c.Fz, c.H⟩, .i (0 : Nat), _, rfl, p1, p2, .i _, h⟩
     ·have hw : writeL G (.dptr p k 0) (l.take (min n len * esz)) (fun G' => K (.i (min n len : Nat)) G') := by
       unfold writeL
       dsimp only
       rw [hg]
       refine ⟨hk0, ?_, h⟩
       rw [r1, List.length_take, Nat.zero_add]
       exact Nat.le_trans (Nat.min_le_left _ _) (Nat.mul_le_mul_right _ (Nat.min_le_right _ _))
      obtain ⟨o2, v2, i2, H', c', G', w1, w2, w3, w4, w5, w6⟩ := writeL_ok hs (a := .ptr o v 0) (.dptr e hk (fun _ => ⟨rfl, len, esz, room, r2⟩)) (q2.take (min n len * esz)) hw
      cases w1
      rw [hha, r2]
      dsimp only
      rw [Nat.beq_refl, hmin]
      dsimp only
      rw [show Nat.mul (min n len) esz = min n len * esz from rfl, w2]
      exact ⟨c', _, G', w3, w4, w5, .i _, w6⟩
   ·exact q4.elim
  ·rename_i p k lo len
   split at q4
   ·rename_i r len0 esz ver st hg
    obtain ⟨hk0, rfl, hle, h⟩ := q4
    cases hd with
    | @vw _ _ _ _ k' hh _ e hk ha _ _ =>
     obtain ⟨r0, r1, r2⟩ := hs.obj p _ _ _ hg e
     have noth : len = 0 → (a = .nilSl ∨ a = .emp ∧ lo ≠ 0) → OpRes P c G K (.val (.int .i64 0) c.H) := by
      intro hl0 _
      subst hl0
      have hm : min n 0 = 0 := by omega
      rw [hm] at h
      simp only [Nat.zero_mul, List.take_zero] at h
      have hlay : layLV r (lo * esz) [] = r := by unfold layLV; simp
      rw [hlay] at h
      obtain ⟨p1, p2, _⟩ := hs.upd (k' := k') (x' := hh) (ob' := .dyn r len0 esz ver (st + 1)) (H' := c.H) hg rfl e (Nat.le_refl _) (fun _ _ _ => rfl) (fun o e' => ⟨.inl e', hs.lt o ⟨p, _, _, _, hg, rfl, e, e'⟩⟩) (Nat.le_refl _) (fun _ => rfl) (fun _ => rfl) (.inl (Nat.lt_succ_self _))
       (fun hle' => (hs.obj p _ _ _ hg e).mono hle' (fun _ _ => rfl))
      exact ⟨⟨c.hd.set p (k', hh), c.Fz, c.H⟩, .i (0 : Nat), _, rfl, p1, p2, .i _, h⟩
     rcases ha (by omega) with ⟨r3, r4⟩ | ⟨o, v, len', esz', room, room', r3, r4, r9⟩
     ·have := noth r3 r4
      rcases r4 with rfl | ⟨rfl, _⟩
      ·exact this
      ·exact this
     ·have e2 := e
      rw [r3] at e2
      obtain ⟨_, w1, w2, w3, _⟩ := dyn_at hs hg e2
      subst w2 w3
      have hw : writeL G (.dptr p k (lo * esz')) (l.take (min n len * esz')) (fun G' => K (.i (min n len : Nat)) G') := by
       unfold writeL
       dsimp only
       rw [hg]
       refine ⟨hk0, ?_, h⟩
       rw [List.length_take]
       have h1 : min (min n len * esz') l.length ≤ len * esz' := Nat.le_trans (Nat.min_le_left _ _) (Nat.mul_le_mul_right _ (Nat.min_le_right _ _))
       rw [Nat.add_mul] at hle
       omega
      obtain ⟨o2, v2, i2, H', c', G', u1, u2, u3, u4, u5, u6⟩ := writeL_ok hs (a := .ptr o v (lo * esz')) (.dptr e hk (fun _ => ⟨rfl, len', esz', room, r3⟩)) (q2.take (min n len * esz')) hw
      cases u1
      rw [r4]
      dsimp only
      rw [Nat.beq_refl, hmin]
      dsimp only
      rw [show Nat.mul (min n len) esz' = min n len * esz' from rfl, u2]
      exact ⟨c', _, G', u3, u4, u5, .i _, u6⟩
   ·exact q4.elim
  ·exact q4.elim
 | clear size z x =>
  simp only [LOp.ok, Bool.and_eq_true] at hok
  have hz := scals_AR c hok.1
  have hx := Lx_ok hE hok.2
  simp only [OpL] at h
  simp only [LOp.r, evR]
  generalize x.ev ρ = v at h hx
  generalize x.r.ev (ρA E) = a at hx ⊢
  split at h
  ·rename_i p k lo len
   split at h
   ·rename_i r len0 esz ver st hg
    obtain ⟨hk0, rfl, hzl, hle, h⟩ := h
    cases hx with
    | @vw _ _ _ _ k' hh _ e hk ha _ _ =>
     obtain ⟨r0, r1, r2⟩ := hs.obj p _ _ _ hg e
     have noth : len = 0 → OpRes P c G K (.val undefA c.H) := by
      intro hl0
      subst hl0
      have hlay : layLV r (lo * esz) (repL z 0) = r := by unfold layLV; simp [repL]
      rw [hlay] at h
      obtain ⟨p1, p2, _⟩ := hs.upd (k' := k') (x' := hh) (ob' := .dyn r len0 esz ver (st + 1)) (H' := c.H) hg rfl e (Nat.le_refl _) (fun _ _ _ => rfl) (fun o e' => ⟨.inl e', hs.lt o ⟨p, _, _, _, hg, rfl, e, e'⟩⟩) (Nat.le_refl _) (fun _ => rfl) (fun _ => rfl) (.inl (Nat.lt_succ_self _))
       (fun hle' => (hs.obj p _ _ _ hg e).mono hle' (fun _ _ => rfl))
      exact ⟨⟨c.hd.set p (k', hh), c.Fz, c.H⟩, .any, _, rfl, p1, p2, .any _, h⟩
     rcases ha (by omega) with ⟨r3, r4⟩ | ⟨o, v, len', esz', room, room', r3, r4, r9⟩
     ·have := noth r3
      rcases r4 with rfl | ⟨rfl, _⟩
      ·exact this
      ·exact this
     ·have e2 := e
      rw [r3] at e2
      obtain ⟨_, w1, w2, w3, _⟩ := dyn_at hs hg e2
      subst w2 w3
      have hw : writeL G (.dptr p k (lo * esz')) (repL z len) (fun G' => K .any G') := by
       unfold writeL
       dsimp only
       rw [hg]
       refine ⟨hk0, ?_, h⟩
       rw [repL_length, hzl, ← Nat.add_mul]
       exact hle
      obtain ⟨o2, v2, i2, H', c', G', u1, u2, u3, u4, u5, u6⟩ := writeL_ok hs (a := .ptr o v (lo * esz')) (.dptr e hk (fun _ => ⟨rfl, len', esz', room, r3⟩)) (hz.rep len) hw
      cases u1
      rw [r4]
      dsimp only
      rw [Nat.beq_refl]
      dsimp only
      rw [u2]
      exact ⟨c', .any, G', u3, u4, u5, .any _, u6⟩
   ·exact h.elim
  ·exact h.elim
 | mkMap0 => exact pushMapL_ok hs h
 | mkMap1 x =>
  have hx := Lx_ok hE hok
  simp only [OpL] at h
  simp only [LOp.r, evR]
  generalize x.ev ρ = v at h hx
  generalize x.r.ev (ρA E) = a at hx ⊢
  split at h
  ·cases hx; exact pushMapL_ok hs h
  ·exact h.elim
 | lookup d z ok x i =>
  simp only [LOp.ok, Bool.and_eq_true] at hok
  have hz := cst_AR c hok.1.1
  have hx := Lx_ok hE hok.1.2
  have hi := Lx_ok hE hok.2
  simp only [OpL] at h
  simp only [LOp.r, evR]
  obtain ⟨es, es', q1, q2, q3, _⟩ := mapL_ok hs hx h
  rw [q1]
  dsimp only
  rcases findL_ok hi q2 q3 with ⟨f1, f2⟩ | ⟨v, b, f1, f2, f3⟩
  ·rw [f1]
   dsimp only
   cases ok with
   | true => exact .same hs (.tup (.cons hz (.cons (.bool _) .nil))) f2
   | false => exact .same hs hz f2
  ·rw [f1]
   dsimp only
   cases ok with
   | true => exact .same hs (.tup (.cons f2 (.cons (.bool _) .nil))) f3
   | false => exact .same hs f2 f3
 | mapUpd d m k v =>
  simp only [LOp.ok, Bool.and_eq_true] at hok
  simp only [OpL] at h
  simp only [LOp.r, evR]
  exact mapUpd_ok hs (Lx_ok hE hok.1.1) (Lx_ok hE hok.1.2) (Lx_ok hE hok.2) h
 | lenMap x =>
  have hx := Lx_ok hE hok
  simp only [OpL] at h
  simp only [LOp.r, evR]
  obtain ⟨es, es', q1, q2, q3, q4⟩ := mapL_ok hs hx h
  have hlen : ∀ {l : List (LV × LV × Nat)} {r : List (AV × AV × Nat)}, MRs c l r → l.length = r.length := by
   intro l r hr
   induction hr with
   | nil => rfl
   | cons _ _ _ ih => simp [ih]
  rcases q4 with ⟨e1, rfl⟩ | ⟨o, ck, e1, e2⟩
  ·rw [e1]
   cases q2
   exact .same hs (.i 0) q3
  ·rw [e1]
   dsimp only
   rw [e2]
   dsimp only
   rw [← hlen q2]
   exact .same hs (.i _) q3
 | slArr n size x lo hi =>
  simp only [LOp.ok, Bool.and_eq_true] at hok
  have hx := Lx_ok hE hok.1.1
  simp only [OpL] at h
  simp only [LOp.r, evR]
  generalize x.ev ρ = v at h hx
  generalize x.r.ev (ρA E) = a at hx ⊢
  split at h
  ·rename_i p i
   split at h
   ·rename_i l st hg
    obtain ⟨h0, h⟩ := h
    obtain ⟨rlo, nlo, q1, q2, q3⟩ := bndL_ok hE hok.1.2 h
    obtain ⟨rhi, nhi, q4, q5, q6⟩ := bndL_ok hE hok.2 q3
    rw [q1, q4]
    obtain ⟨h1, h2, h3⟩ := q6
    cases hx with
    | @ptr _ _ o e =>
     obtain ⟨t, l', r2, r3, r4⟩ := cells_at hs hg e
     obtain ⟨a2, p1, p2, p3⟩ := sliceSl_any (lo := rlo) (hi := rhi) (o := o) (v := 0) (i := i) (len := n) (esz := size) (room := some n) (by rw [q2, q5]; exact h1) (by rw [q5]; exact h2) (fun r e => by cases e; exact Nat.le_refl _)
     have b1 : Nat.ble (Nat.add i (Nat.mul n size)) l.length = true := Nat.ble_eq_true_of_le h0
     simp only [optR, r2, b1]
     rw [p1]
     rw [q2, q5] at p3
     obtain ⟨u1, u2⟩ := hs.freeze (st := st + 1) hg rfl (Nat.lt_succ_self _) e (rfl : idOf (.ptr o 0 0) = some o)
     have hsub : i + nlo * size + (nhi - nlo) * size ≤ l.length := by
      rw [Nat.add_assoc, ← Nat.add_mul]
      have : (nlo + (nhi - nlo)) * size ≤ n * size := Nat.mul_le_mul_right _ (by omega)
      omega
     refine ⟨⟨c.hd, fun q => c.Fz q ∨ q = o, c.H⟩, _, _, rfl, u1, u2, ?_, h3⟩
     rcases p3 with ⟨e1, rfl, _⟩ | ⟨room, rfl, hrm⟩
     ·rw [e1]; simp only [Nat.zero_mul, List.take_zero]; exact .lstEmp
     ·refine .lst (.inr rfl) hrm (by simp; omega) (readAt_of r2 r3 (Nat.le_refl _) hsub) (ARs.mono u2.le ((r4.drop _).take _))
   ·exact h.elim
  ·exact h.elim
 | callV f args =>
  simp only [LOp.ok, Bool.and_eq_true] at hok
  have hf := Lx_ok hE hok.1
  have ha := Lxs_ok hE hok.2
  simp only [OpL] at h
  simp only [LOp.r, evR]
  generalize f.ev ρ = v at h hf
  generalize f.r.ev (ρA E) = a at hf ⊢
  split at h
  ·rename_i g l r
   have hcb := h.1
   cases hf with
   | fn hl hr =>
    rename_i l' r'
    have key : callVal P c.H (.fn (.func g) l' r') ((rxs args).map (·.ev (ρA E))) = .call (.fn g) (l' ++ (rxs args).map (·.ev (ρA E)) ++ r') := by
     have k2 : callFn P (.fn (.func g) l' r') ((rxs args).map (·.ev (ρA E))) = .call (.fn g) (l' ++ (rxs args).map (·.ev (ρA E)) ++ r') := by
      unfold callFn
      dsimp only
      rw [if_pos hcb.1]
     unfold callVal
     split
     ·rename_i g' e
      cases e
      rw [hcb.2]
      exact k2
     ·exact k2
    rw [key]
    exact ⟨.fn g, _, rfl, (hl.append ha).append hr, h⟩
  ·rename_i p r
   cases hf with
   | yield e => exact ⟨.yield p, _, e, ha, h⟩
  ·exact h.elim
 | mkIface t x =>
  have hx := Lx_ok hE hok
  simp only [OpL] at h
  simp only [LOp.r, evR]
  exact .same hs (.iface hx) h
 | assert z ok t x =>
  simp only [LOp.ok, Bool.and_eq_true] at hok
  have hz := cst_AR c hok.1
  have hx := Lx_ok hE hok.2
  simp only [OpL] at h
  simp only [LOp.r, evR]
  generalize x.ev ρ = v at h hx
  generalize x.r.ev (ρA E) = a at hx ⊢
  unfold asrtL at h
  split at h
  ·cases hx
   obtain ⟨rfl, h⟩ := h
   exact .same hs (.tup (.cons hz (.cons (.bool _) .nil))) h
  ·cases hx with
   | iface hv =>
    dsimp only
    split at h
    ·rename_i e
     rw [e]
     dsimp only
     cases ok with
     | true => exact .same hs (.tup (.cons hv (.cons (.bool _) .nil))) h
     | false => exact .same hs hv h
    ·rename_i e
     obtain ⟨rfl, h⟩ := h
     rw [e]
     exact .same hs (.tup (.cons hz (.cons (.bool _) .nil))) h
  ·exact h.elim
 | clone f x =>
  have hx := Lx_ok hE hok
  simp only [OpL] at h
  obtain ⟨hc, h⟩ := h
  simp only [LOp.r, evR, List.map_cons, List.map_nil]
  have key : callVal P c.H (Ox.ev (ρA E) (.c (.fn (.func f) [] []))) [x.r.ev (ρA E)] = cloneA c.H [x.r.ev (ρA E)] := by
   show callVal P c.H (.fn (.func f) [] []) _ = _
   unfold callVal
   dsimp only
   rw [hc]
  rw [key]
  generalize x.ev ρ = v at h hx
  generalize x.r.ev (ρA E) = a at hx ⊢
  unfold clnL at h
  split at h
  ·rename_i t p
   split at h
   ·rename_i es ck st hg
    cases hx with
    | iface hv =>
     cases hv with
     | @map _ o e =>
      obtain ⟨_, o', es', he, r2, r3⟩ := hs.obj p _ _ _ hg e
      cases he
      unfold cloneA
      dsimp only
      rw [r2]
      have hle : CxLe c ⟨c.hd ++ [(0, .map c.H.next)], c.Fz, c.H.push (.map es' ck)⟩ := ⟨fun p k h e => ⟨k, h, by show (c.hd ++ _)[p]? = _; rw [List.getElem?_append_left (List.getElem?_eq_some_iff.1 e).1]; exact e, Nat.le_refl _, fun _ => rfl, fun _ => rfl⟩, fun o ho => ⟨ho, Heap.get_push_ne _ _ (hs.fz o ho)⟩⟩
      obtain ⟨q1, q2, q3⟩ := hs.push (H' := c.H.push (.map es' ck)) (x := .map c.H.next) (ob := .map es ck 0) (by show c.H.next ≤ c.H.next + 1; omega) (fun o ho => Heap.get_push_ne _ _ ho) (fun o e => by cases e; exact ⟨Nat.le_refl _, by show c.H.next < c.H.next + 1; omega⟩)
       ⟨rfl, c.H.next, es', rfl, Heap.get_push_same _ _, r3.mono hle⟩
      exact ⟨_, .iface t (.map G.length), _, rfl, q1, q2, .iface (.map (by rw [← hs.len]; exact List.getElem?_concat_length)), h⟩
   ·exact h.elim
  ·exact h.elim
end res
end Go.Sv
namespace Go.Sv
structure RI where
 d : Option Nat
 g : Option (Nat × Bool)
 o : ROp
noncomputable def dstOk (n : Nat) : Option Nat → Bool
 | none => true
 | some d => Nat.blt d n
noncomputable def resItem (P : Program) (n : Nat) (ops : Array Oper) (o : Oper) : Option RI :=
 match dstOk n o.dst with
 | false => none
 | true => match resOp P o.op with
  | none => none
  | some r => match o.guard with
   | none => some ⟨o.dst, none, r⟩
   | some (j, w) => match (ops[j]?).bind (·.dst) with
    | none => none
    | some t => match Nat.ble t lim with
     | true => some ⟨o.dst, some (t, w), r⟩
     | false => none
noncomputable def resItems (P : Program) (n : Nat) (ops : Array Oper) : List Oper → Option (List RI)
 | [] => some []
 | o :: l => match resItem P n ops o with
  | none => none
  | some r => match resItems P n ops l with
   | none => none
   | some rs => some (r :: rs)
structure LI where
 d : Option Nat
 g : Option (Nat × Bool)
 o : LOp
noncomputable def LI.r (x : LI) : RI := ⟨x.d, x.g, x.o.r⟩
noncomputable def lis : List LI → List RI
 | [] => []
 | x :: l => x.r :: lis l
noncomputable def grd (g : Option (Nat × Bool)) (E : Tr AV) : Bool := match g with
 | none => true
 | some (t, w) => match getP (pathOf t) E with
  | some (.bool b) => match b with
   | true => w
   | false => !w
  | _ => false
noncomputable def runRI (P : Program) (x : RI) (k : CallT) (E : Tr AV) (H : Heap) : OE := match grd x.g E with
 | false => .ok (putE x.d undefA E) H
 | true => match evR P (ρA E) H x.o with
  | .no => .no
  | .val v H' => .ok (putE x.d v E) H'
  | .call t args => match k t args H with
   | .no => .no
   | .ok v H' => .ok (putE x.d v E) H'
theorem compOper_res {P : Program} {n : Nat} {ops : Array Oper} {o : Oper} {x : RI} (h : resItem P n ops o = some x) (k : CallT) (E : Tr AV) (H : Heap) : (compOper P n ops o).run k E H = runRI P x k E H := by
 unfold resItem at h
 cases hd : dstOk n o.dst with
 | false => rw [hd] at h; cases h
 | true =>
  rw [hd] at h
  dsimp only at h
  cases hr : resOp P o.op with
  | none => rw [hr] at h; cases h
  | some r =>
   rw [hr] at h
   dsimp only at h
   have hp : ∃ p, putF n o.dst = some p ∧ ∀ a E, p.run a E = putE o.dst a E := by
    cases hdd : o.dst with
    | none => exact ⟨_, rfl, fun _ _ => rfl⟩
    | some d =>
     rw [hdd] at hd
     have hlt : d < n := Nat.le_of_ble_eq_true hd
     unfold putF
     dsimp only
     rw [if_pos hlt]
     exact ⟨_, rfl, fun _ _ => rfl⟩
   obtain ⟨p, hp1, hp2⟩ := hp
   have hx : x.d = o.dst ∧ x.o = r ∧ (guardF ops o).run E = grd x.g E := by
    cases hg : o.guard with
    | none =>
     rw [hg] at h
     cases h
     refine ⟨rfl, rfl, ?_⟩
     unfold guardF
     rw [hg]
     rfl
    | some jw =>
     obtain ⟨j, w⟩ := jw
     rw [hg] at h
     dsimp only at h
     cases ht : (ops[j]?).bind (·.dst) with
     | none => rw [ht] at h; cases h
     | some t =>
      rw [ht] at h
      dsimp only at h
      cases hl : Nat.ble t lim with
      | false => rw [hl] at h; cases h
      | true =>
       rw [hl] at h
       cases h
       refine ⟨rfl, rfl, ?_⟩
       unfold guardF
       rw [hg]
       dsimp only
       rw [ht]
       dsimp only
       rw [if_pos (Nat.le_of_ble_eq_true hl)]
       rfl
   obtain ⟨h1, h2, h3⟩ := hx
   unfold compOper runRI
   rw [hp1]
   dsimp only
   rw [h3, h1, h2, resOp_ok (EnvR_ρA E) hr H]
   cases grd x.g E with
   | false => simp only [hp2]
   | true =>
    dsimp only
    cases evR P (ρA E) H r with
    | no => rfl
    | val v H' => simp only [hp2]
    | call t args =>
     dsimp only
     cases k t args H with
     | no => rfl
     | ok v H' => simp only [hp2]
theorem runRI_mono {P : Program} {x : RI} {k k' : CallT} (hk : k.le k') {E E' : Tr AV} {H H' : Heap} (h : runRI P x k E H = .ok E' H') : runRI P x k' E H = .ok E' H' := by
 unfold runRI at h ⊢
 cases hg : grd x.g E with
 | false => rw [hg] at h; exact h
 | true =>
  rw [hg] at h
  dsimp only at h ⊢
  cases hr : evR P (ρA E) H x.o with
  | no => rw [hr] at h; cases h
  | val v H2 => rw [hr] at h; exact h
  | call t args =>
   rw [hr] at h
   dsimp only at h ⊢
   cases hc : k t args H with
   | no => rw [hc] at h; cases h
   | ok v H2 => rw [hc] at h; rw [hk _ _ _ _ _ hc]; exact h
def updL (ρ : LEnv) (d : Option Nat) (v : LV) : LEnv := match d with
 | none => ρ
 | some d => (d, v) :: ρ
def setL (t : Nat) (v : LV) : LEnv → LEnv
 | [] => []
 | (d, x) :: l => if t = d then (d, v) :: l else (d, x) :: setL t v l
def brG (v : LV) (A B Z : Prop) : Prop := match v with
 | .bool t => brL t A B
 | .tup [] => Z
 | _ => False
noncomputable def ItL (P : Program) (x : LI) (ρ : LEnv) (G : LHeap) (K : LEnv → LHeap → Prop) : Prop := match x.g with
 | none => OpL P ρ G x.o fun v G' => K (updL ρ x.d v) G'
 | some (t, true) => brG (lk ρ t) (OpL P (setL t (.bool true) ρ) G x.o fun v G' => K (updL (setL t (.bool true) ρ) x.d v) G') (K (updL (setL t (.bool false) ρ) x.d (.tup [])) G) (K (updL ρ x.d (.tup [])) G)
 | some (t, false) => brG (lk ρ t) (K (updL (setL t (.bool true) ρ) x.d (.tup [])) G) (OpL P (setL t (.bool false) ρ) G x.o fun v G' => K (updL (setL t (.bool false) ρ) x.d v) G') (K (updL ρ x.d (.tup [])) G)
theorem brV_bool {v : LV} {A B : Prop} (h : brV v A B) : ∃ b, v = .bool b ∧ (b = true → A) ∧ (b = false → B) := by
 cases v with
 | bool b => exact ⟨b, rfl, h⟩
 | _ => exact h.elim
theorem brG_cases {v : LV} {A B Z : Prop} (h : brG v A B Z) : (∃ b, v = .bool b ∧ (b = true → A) ∧ (b = false → B)) ∨ v = .tup [] ∧ Z := by
 unfold brG at h
 split at h
 ·exact .inl ⟨_, rfl, h⟩
 ·exact .inr ⟨rfl, h⟩
 ·exact h.elim
theorem ItL_guard {P : Program} {x : LI} {t : Nat} {w : Bool} (hg : x.g = some (t, w)) {ρ : LEnv} {G : LHeap} {K : LEnv → LHeap → Prop} (h : ItL P x ρ G K) :
  (∃ b, lk ρ t = .bool b ∧ (b = w → OpL P (setL t (.bool w) ρ) G x.o fun v G' => K (updL (setL t (.bool w) ρ) x.d v) G') ∧ (b = !w → K (updL (setL t (.bool (!w)) ρ) x.d (.tup [])) G)) ∨ lk ρ t = .tup [] ∧ K (updL ρ x.d (.tup [])) G := by
 unfold ItL at h
 rw [hg] at h
 cases w with
 | true => exact brG_cases h
 | false =>
  rcases brG_cases h with ⟨b, e, h1, h2⟩ | h
  ·exact .inl ⟨b, e, h2, h1⟩
  ·exact .inr h
noncomputable def OpsL (P : Program) : List LI → LEnv → LHeap → (LEnv → LHeap → Prop) → Prop
 | [], ρ, G, K => K ρ G
 | x :: l, ρ, G, K => ItL P x ρ G fun ρ' G' => OpsL P l ρ' G' K
theorem EnvL.put {c : Cx} {ρ : LEnv} {E : Tr AV} (h : EnvL c ρ E) {v : LV} {a : AV} (ha : AR c v a) (d : Option Nat) : EnvL c (updL ρ d v) (putE d a E) := by
 cases d with
 | none => exact h
 | some d =>
  intro t
  show AR c (lk ((d, v) :: ρ) t) ((getP (pathOf t) (setP a (pathOf d) E)).getD undefA)
  rw [get_set, lk_cons]
  by_cases e : t = d
  ·rw [if_pos e, if_pos e]; exact ha
  ·rw [if_neg e, if_neg e]; exact h t
theorem lk_setL (t : Nat) (v : LV) : ∀ (ρ : LEnv) (t' : Nat), lk (setL t v ρ) t' = lk ρ t' ∨ (t' = t ∧ lk (setL t v ρ) t' = v)
 | [], _ => .inl rfl
 | (d, x) :: l, t' => by
  simp only [setL]
  by_cases h : t = d
  ·rw [if_pos h]
   simp only [lk_cons]
   by_cases h2 : t' = d
   ·rw [if_pos h2]; exact .inr ⟨by omega, rfl⟩
   ·rw [if_neg h2, if_neg h2]; exact .inl rfl
  ·rw [if_neg h]
   simp only [lk_cons]
   by_cases h2 : t' = d
   ·rw [if_pos h2, if_pos h2]; exact .inl rfl
   ·rw [if_neg h2, if_neg h2]; exact lk_setL t v l t'
theorem EnvL.setL {c : Cx} {ρ : LEnv} {E : Tr AV} (h : EnvL c ρ E) {t : Nat} {v : LV} (ha : AR c v ((getP (pathOf t) E).getD undefA)) : EnvL c (Sv.setL t v ρ) E := by
 intro t'
 rcases lk_setL t v ρ t' with e | ⟨rfl, e⟩
 ·rw [e]; exact h t'
 ·rw [e]; exact ha
section run
variable {P : Program} {c : Cx} {G : LHeap}
theorem ItL_ok (hs : HSim c G) {ρ : LEnv} {E : Tr AV} (hE : EnvL c ρ E) {x : LI} (hok : x.o.ok = true) {K : LEnv → LHeap → Prop} (h : ItL P x ρ G K) :
  ∃ m E' c' ρ' G', runRI P x.r (callA P (OL P) m) E c.H = .ok E' c'.H ∧ HSim c' G' ∧ Step c G c' G' ∧ EnvL c' ρ' E' ∧ K ρ' G' := by
 have main : ∀ ρ, EnvL c ρ E → (OpL P ρ G x.o fun v G' => K (updL ρ x.d v) G') → grd x.g E = true → ∃ m E' c' ρ' G', runRI P x.r (callA P (OL P) m) E c.H = .ok E' c'.H ∧ HSim c' G' ∧ Step c G c' G' ∧ EnvL c' ρ' E' ∧ K ρ' G' := by
  intro ρ hE h hg
  have hr := OpL_ok hs hE hok h
  unfold OpRes at hr
  unfold runRI
  rw [show x.r.g = x.g from rfl, hg]
  dsimp only [LI.r]
  cases he : evR P (ρA E) c.H x.o.r with
  | no => rw [he] at hr; exact hr.elim
  | val v1 H' =>
   rw [he] at hr
   obtain ⟨c', v, G', rfl, q2, q3, q4, q5⟩ := hr
   exact ⟨0, _, c', _, G', rfl, q2, q3, (hE.mono q3.le).put q4 x.d, q5⟩
  | call t1 args1 =>
   rw [he] at hr
   obtain ⟨t, args, q1, q2, _, q3⟩ := hr
   obtain ⟨m, v1, H', r1, c', v, G', rfl, r3, r4, r5, r6⟩ := q3 c t1 args1 hs q1 q2
   refine ⟨m, _, c', _, G', ?_, r3, r4, (hE.mono r4.le).put r5 x.d, r6⟩
   dsimp only
   rw [r1]
 cases hgx : x.g with
 | none =>
  unfold ItL at h
  rw [hgx] at h
  exact main ρ hE h (by rw [hgx]; rfl)
 | some tw =>
  obtain ⟨t, w⟩ := tw
  have hg := hgx
  rcases ItL_guard hgx h with ⟨b, hb, h⟩ | ⟨hb, h⟩
  rotate_left
  ·have ht := hE t
   rw [hb] at ht
   have hgf : grd x.g E = false := by
    rw [hg]
    unfold grd
    dsimp only
    cases hq : getP (pathOf t) E with
    | none => rfl
    | some a => rw [hq] at ht; cases ht; rfl
   refine ⟨0, _, c, _, G, ?_, hs, .refl c G, hE.put (.tup .nil) x.d, h⟩
   unfold runRI
   rw [show x.r.g = x.g from rfl, hgf]
   rfl
  ·have ht := hE t
   rw [hb] at ht
   have hget : getP (pathOf t) E = some (.bool b) := by
    cases hq : getP (pathOf t) E with
    | none => rw [hq] at ht; cases ht
    | some a => rw [hq] at ht; cases ht; rfl
   by_cases e : b = w
   ·refine main _ (hE.setL (by rw [hget, ← e]; exact .bool b)) (h.1 e) ?_
    rw [hg]
    unfold grd
    dsimp only
    rw [hget, e]
    cases w <;> rfl
   ·have e' : b = !w := by cases b <;> cases w <;> simp_all
    refine ⟨0, _, c, _, G, ?_, hs, .refl c G, (hE.setL (by rw [hget, ← e']; exact .bool b)).put (.tup .nil) x.d, h.2 e'⟩
    have hgf : grd x.g E = false := by
     rw [hg]
     unfold grd
     dsimp only
     rw [hget, e']
     cases w <;> rfl
    unfold runRI
    rw [show x.r.g = x.g from rfl, hgf]
    rfl
theorem OpsL_ok {n : Nat} {ops : Array Oper} : ∀ {l : List LI} {os : List Oper} {c : Cx} {G : LHeap} {ρ : LEnv} {E : Tr AV} {K : LEnv → LHeap → Prop}, resItems P n ops os = some (lis l) → l.all (·.o.ok) = true → HSim c G → EnvL c ρ E → OpsL P l ρ G K →
  ∃ m E' c' ρ' G', (compOps P n ops os).run (callA P (OL P) m) E c.H = .ok E' c'.H ∧ HSim c' G' ∧ Step c G c' G' ∧ EnvL c' ρ' E' ∧ K ρ' G'
 | [], os, c, G, ρ, E, K, hr, _, hs, hE, h => by
  cases os with
  | nil => exact ⟨0, E, c, ρ, G, rfl, hs, .refl c G, hE, h⟩
  | cons o os =>
   simp only [resItems] at hr
   split at hr
   ·cases hr
   ·split at hr <;> cases hr
 | x :: l, os, c, G, ρ, E, K, hr, hok, hs, hE, h => by
  cases os with
  | nil => cases hr
  | cons o os =>
   simp only [resItems] at hr
   split at hr
   ·cases hr
   ·rename_i r hr1
    split at hr
    ·cases hr
    ·rename_i rs hr2
     simp only [lis, Option.some.injEq, List.cons.injEq] at hr
     obtain ⟨rfl, rfl⟩ := hr
     simp only [List.all_cons, Bool.and_eq_true] at hok
     obtain ⟨m1, E1, c1, ρ1, G1, p1, p2, p3, p4, p5⟩ := ItL_ok hs hE hok.1 (show ItL P x ρ G fun ρ' G' => OpsL P l ρ' G' K from h)
     obtain ⟨m2, E2, c2, ρ2, G2, q1, q2, q3, q4, q5⟩ := OpsL_ok hr2 hok.2 p2 p4 p5
     refine ⟨max m1 m2, E2, c2, ρ2, G2, ?_, q2, .trans hs p2 p3 q3, q4, q5⟩
     simp only [compOps]
     rw [compOper_res hr1, runRI_mono (callA_mono (Nat.le_max_left m1 m2)) p1]
     dsimp only
     exact compOps_mono (callA_mono (Nat.le_max_right m1 m2)) q1
end run
end Go.Sv
namespace Go.Sv
inductive RC where
 | skip
 | ops (l : List RI)
 | draw (l : List (RI × List (RI × Bool)))
 | seq (a b : RC)
 | cond (c : Ox) (a b : RC)
 | block (id : Nat) (c : RC)
 | loop (c : RC)
 | rangeF (g : Ox) (ps : List Nat) (a b : RC)
 | exit (id : Nat)
 | scope (c : RC)
 | label
 | ret
 | stuck
inductive LC where
 | skip
 | ops (l : List LI)
 | draw (l : List (LI × List (LI × Bool)))
 | seq (a b : LC)
 | cond (c : Lx) (a b : LC)
 | block (id : Nat) (c : LC)
 | loop (c : LC)
 | rangeF (g : Lx) (ps : List Nat) (a b : LC)
 | exit (id : Nat)
 | scope (c : LC)
 | label
 | ret
 | stuck
noncomputable def memN (t : Nat) : List Nat → Bool
 | [] => false
 | a :: l => match Nat.beq t a with
  | true => true
  | false => memN t l
noncomputable def offOf (ops : Array Oper) (d : Option Nat) (x : DOp) : Bool := match d with
 | none => true
 | some d => match memN d (looks ops x.o) with
  | true => false
  | false => match x.o.dst with
   | none => true
   | some e => !(Nat.beq d e)
noncomputable def isAl (x : DOp) : Bool := match x.c with
 | .al => true
 | _ => false
noncomputable def resCks (P : Program) (n : Nat) (ops : Array Oper) : List DOp → Option (List (RI × Bool))
 | [] => some []
 | x :: l => match resItem P n ops x.o with
  | none => none
  | some r => match resCks P n ops l with
   | none => none
   | some rs => some ((r, isAl x) :: rs)
noncomputable def eqCls : Cls → Cls → Bool
 | .quiet, .quiet => true
 | .rd, .rd => true
 | .al, .al => true
 | .ch, .ch => true
 | _, _ => false
noncomputable def ownDst (ops : Array Oper) (x : DOp) : Bool := match x.o.dst with
 | none => false
 | some d => !(memN d (looks ops x.o))
noncomputable def resGo (P : Program) (n : Nat) (ops : Array Oper) : List DOp → List DOp → Option (List (RI × List (RI × Bool)))
 | [], _ => some []
 | x :: l, pend => match allB (offOf ops x.o.dst) pend && eqCls x.c (cls P x.o.op) with
  | false => none
  | true => match resItem P n ops x.o with
   | none => none
   | some r => match x.c with
    | .quiet => match resGo P n ops l pend with
     | none => none
     | some rs => some ((r, []) :: rs)
    | .rd => match ownDst ops x with
     | false => none
     | true => match resGo P n ops l (x :: pend) with
      | none => none
      | some rs => some ((r, []) :: rs)
    | .al => match ownDst ops x with
     | false => none
     | true => match resCks P n ops pend with
      | none => none
      | some cs => match resGo P n ops l (x :: pend) with
       | none => none
       | some rs => some ((r, cs) :: rs)
    | .ch => match resCks P n ops (filterB (fun y => !(Nat.testBit x.m y.i)) pend) with
     | none => none
     | some cs => match resGo P n ops l (filterB (fun y => !(Nat.testBit x.m y.i)) pend) with
      | none => none
      | some rs => some ((r, cs) :: rs)
noncomputable def resDraw (P : Program) (n : Nat) (ops : Array Oper) : Option (List (RI × List (RI × Bool))) :=
 let L := dops P ops ops.toList [] 0
 let chain := filterB isCh L
 let ord := ordOf L chain
 match drawOk ops.size L ord with
 | true => resGo P n ops ord []
 | false => none
noncomputable def resC (P : Program) (n : Nat) : Code → Option RC
 | .skip => some .skip
 | .region _ ops draw => match draw with
  | true => match resDraw P n ops with
   | none => some .stuck
   | some l => some (.draw l)
  | false => match resItems P n ops ops.toList with
   | none => some .stuck
   | some l => some (.ops l)
 | .seq a b => match resC P n a with
  | none => none
  | some a => match resC P n b with
   | none => none
   | some b => some (.seq a b)
 | .cond c a b => match resO c with
  | none => none
  | some c => match resC P n a with
   | none => none
   | some a => match resC P n b with
    | none => none
    | some b => some (.cond c a b)
 | .block id c => match resC P n c with
  | none => none
  | some c => some (.block id c)
 | .loop c => match resC P n c with
  | none => none
  | some c => some (.loop c)
 | .rangeFunc g ps a b => match resO g with
  | none => none
  | some g => match resC P n a with
   | none => none
   | some a => match resC P n b with
    | none => none
    | some b => some (.rangeF g ps.toList a b)
 | .exit id => some (.exit id)
 | .scope c => match resC P n c with
  | none => none
  | some c => some (.scope c)
 | .label _ => some .label
 | .ret => some .ret
 | _ => some .stuck
noncomputable def rck : List (LI × Bool) → List (RI × Bool)
 | [] => []
 | (x, b) :: l => (x.r, b) :: rck l
noncomputable def rdr : List (LI × List (LI × Bool)) → List (RI × List (RI × Bool))
 | [] => []
 | (x, c) :: l => (x.r, rck c) :: rdr l
noncomputable def LC.r : LC → RC
 | .skip => .skip
 | .ops l => .ops (lis l)
 | .draw l => .draw (rdr l)
 | .seq a b => .seq a.r b.r
 | .cond c a b => .cond c.r a.r b.r
 | .block id c => .block id c.r
 | .loop c => .loop c.r
 | .rangeF g ps a b => .rangeF g.r ps a.r b.r
 | .exit id => .exit id
 | .scope c => .scope c.r
 | .label => .label
 | .ret => .ret
 | .stuck => .stuck
def LC.ok : LC → Bool
 | .ops l => l.all (·.o.ok)
 | .draw l => l.all fun x => x.1.o.ok && x.2.all (·.1.o.ok)
 | .seq a b => a.ok && b.ok
 | .cond c a b => c.ok && a.ok && b.ok
 | .block _ c => c.ok
 | .loop c => c.ok
 | .rangeF g _ a b => g.ok && a.ok && b.ok
 | .scope c => c.ok
 | _ => true
abbrev Post := Ex → LEnv → List Nat → LHeap → Prop
inductive DRs (c : Cx) : List Nat → List Nat → Prop where
 | nil : DRs c [] []
 | cons {p o : Nat} {l r : List Nat} (h : c.hd[p]? = some (0, .ptr o 0 0)) (hs : DRs c l r) : DRs c (p :: l) (o :: r)
theorem DRs.mono {c c' : Cx} (h : CxLe c c') : ∀ {l r : List Nat}, DRs c l r → DRs c' l r
 | _, _, .nil => .nil
 | _, _, .cons e es => .cons (h.fix e rfl) (DRs.mono h es)
def ROr (c : Cx) : Option Nat → Option Nat → Prop
 | none, none => True
 | some p, some o => c.hd[p]? = some (0, .ptr o 0 0)
 | _, _ => False
theorem ROr.mono {c c' : Cx} (h : CxLe c c') {a b : Option Nat} (k : ROr c a b) : ROr c' a b := by
 cases a <;> cases b <;> first | exact k | exact h.fix k rfl
def W (P : Program) (f n : Nat) (s : LC) (ro : Option Nat) (ρ : LEnv) (D : List Nat) (G : LHeap) (Q : Post) : Prop :=
 ∀ (code : Code) (c : Cx) (E : Tr AV) (D1 : List Nat) (ro1 : Option Nat), resC P n code = some s.r → s.ok = true → HSim c G → EnvL c ρ E → DRs c D D1 → ROr c ro ro1 →
  ∃ m x E' D1' c' ρ' D' G', (compCode P f n code).run (callA P (OL P) m) m ro1 E D1 c.H = .ok x E' D1' c'.H ∧ HSim c' G' ∧ Step c G c' G' ∧ EnvL c' ρ' E' ∧ DRs c' D' D1' ∧ Q x ρ' D' G'
section rules
variable {P : Program} {f n : Nat} {ro : Option Nat} {ρ : LEnv} {D : List Nat} {G : LHeap} {Q : Post}
theorem W.post {s : LC} {Q' : Post} (h : W P f n s ro ρ D G Q) (hq : ∀ x ρ D G, Q x ρ D G → Q' x ρ D G) : W P f n s ro ρ D G Q' := by
 intro code c E D1 ro1 h1 h2 h3 h4 h5 h6
 obtain ⟨m, x, E', D1', c', ρ', D', G', q1, q2, q3, q4, q5, q6⟩ := h code c E D1 ro1 h1 h2 h3 h4 h5 h6
 exact ⟨m, x, E', D1', c', ρ', D', G', q1, q2, q3, q4, q5, hq _ _ _ _ q6⟩
theorem inv_skip {code : Code} (h : resC P n code = some .skip) : code = .skip := by
 cases code <;> simp only [resC] at h <;> first | rfl | (repeat' split at h) <;> cases h
theorem inv_ops {code : Code} {l : List RI} (h : resC P n code = some (.ops l)) : ∃ id ops, code = .region id ops false ∧ resItems P n ops ops.toList = some l := by
 cases code <;> simp only [resC] at h <;> (repeat' split at h) <;> cases h
 exact ⟨_, _, rfl, ‹_›⟩
theorem inv_draw {code : Code} {l : List (RI × List (RI × Bool))} (h : resC P n code = some (.draw l)) : ∃ id ops, code = .region id ops true ∧ resDraw P n ops = some l := by
 cases code <;> simp only [resC] at h <;> (repeat' split at h) <;> cases h
 exact ⟨_, _, rfl, ‹_›⟩
theorem inv_seq {code : Code} {a b : RC} (h : resC P n code = some (.seq a b)) : ∃ ca cb, code = .seq ca cb ∧ resC P n ca = some a ∧ resC P n cb = some b := by
 cases code <;> simp only [resC] at h <;> (repeat' split at h) <;> cases h
 exact ⟨_, _, rfl, ‹_›, ‹_›⟩
theorem inv_cond {code : Code} {x : Ox} {a b : RC} (h : resC P n code = some (.cond x a b)) : ∃ cx ca cb, code = .cond cx ca cb ∧ resO cx = some x ∧ resC P n ca = some a ∧ resC P n cb = some b := by
 cases code <;> simp only [resC] at h <;> (repeat' split at h) <;> cases h
 exact ⟨_, _, _, rfl, ‹_›, ‹_›, ‹_›⟩
theorem inv_block {code : Code} {id : Nat} {a : RC} (h : resC P n code = some (.block id a)) : ∃ ca, code = .block id ca ∧ resC P n ca = some a := by
 cases code <;> simp only [resC] at h <;> (repeat' split at h) <;> cases h
 exact ⟨_, rfl, ‹_›⟩
theorem inv_loop {code : Code} {a : RC} (h : resC P n code = some (.loop a)) : ∃ ca, code = .loop ca ∧ resC P n ca = some a := by
 cases code <;> simp only [resC] at h <;> (repeat' split at h) <;> cases h
 exact ⟨_, rfl, ‹_›⟩
theorem inv_range {code : Code} {g : Ox} {ps : List Nat} {a b : RC} (h : resC P n code = some (.rangeF g ps a b)) : ∃ (cg : Operand) (cps : Array Tmp) (ca cb : Code), code = .rangeFunc cg cps ca cb ∧ cps.toList = ps ∧ resO cg = some g ∧ resC P n ca = some a ∧ resC P n cb = some b := by
 cases code <;> simp only [resC] at h <;> (repeat' split at h) <;> cases h
 exact ⟨_, _, _, _, rfl, rfl, ‹_›, ‹_›, ‹_›⟩
theorem inv_exit {code : Code} {id : Nat} (h : resC P n code = some (.exit id)) : code = .exit id := by
 cases code <;> simp only [resC] at h <;> (repeat' split at h) <;> cases h
 rfl
theorem inv_scope {code : Code} {a : RC} (h : resC P n code = some (.scope a)) : ∃ ca, code = .scope ca ∧ resC P n ca = some a := by
 cases code <;> simp only [resC] at h <;> (repeat' split at h) <;> cases h
 exact ⟨_, rfl, ‹_›⟩
theorem inv_label {code : Code} (h : resC P n code = some .label) : ∃ s, code = .label s := by
 cases code <;> simp only [resC] at h <;> (repeat' split at h) <;> cases h
 exact ⟨_, rfl⟩
theorem inv_ret {code : Code} (h : resC P n code = some .ret) : code = .ret := by
 cases code <;> simp only [resC] at h <;> first | rfl | (repeat' split at h) <;> cases h
theorem W_skip (h : Q .normal ρ D G) : W P f n .skip ro ρ D G Q := by
 intro code c E D1 ro1 h1 h2 h3 h4 h5 h6
 obtain rfl := inv_skip h1
 exact ⟨0, .normal, E, D1, c, ρ, D, G, rfl, h3, .refl c G, h4, h5, h⟩
theorem W_label (h : Q .normal ρ D G) : W P f n .label ro ρ D G Q := by
 intro code c E D1 ro1 h1 h2 h3 h4 h5 h6
 obtain ⟨s, rfl⟩ := inv_label h1
 exact ⟨0, .normal, E, D1, c, ρ, D, G, rfl, h3, .refl c G, h4, h5, h⟩
theorem W_exit {id : Nat} (h : Q (.exit id) ρ D G) : W P f n (.exit id) ro ρ D G Q := by
 intro code c E D1 ro1 h1 h2 h3 h4 h5 h6
 obtain rfl := inv_exit h1
 exact ⟨0, .exit id, E, D1, c, ρ, D, G, rfl, h3, .refl c G, h4, h5, h⟩
theorem W_ret (h : Q .ret ρ D G) : W P f n .ret ro ρ D G Q := by
 intro code c E D1 ro1 h1 h2 h3 h4 h5 h6
 obtain rfl := inv_ret h1
 exact ⟨0, .ret, E, D1, c, ρ, D, G, rfl, h3, .refl c G, h4, h5, h⟩
theorem W_scope {s : LC} (h : W P f n s ro ρ D G Q) : W P f n (.scope s) ro ρ D G Q := by
 intro code c E D1 ro1 h1 h2 h3 h4 h5 h6
 obtain ⟨ca, rfl, hca⟩ := inv_scope h1
 exact h ca c E D1 ro1 hca h2 h3 h4 h5 h6
theorem W_ops {l : List LI} (h : OpsL P l ρ G fun ρ' G' => Q .normal ρ' D G') : W P f n (.ops l) ro ρ D G Q := by
 intro code c E D1 ro1 h1 h2 h3 h4 h5 h6
 obtain ⟨id, ops, rfl, hr⟩ := inv_ops h1
 obtain ⟨m, E', c', ρ', G', q1, q2, q3, q4, q5⟩ := OpsL_ok hr h2 h3 h4 h
 refine ⟨m, .normal, E', D1, c', ρ', D, G', ?_, q2, q3, q4, h5.mono q3.le, q5⟩
 simp only [compCode]
 rw [q1]
theorem W_seq {a b : LC} (h : W P f n a ro ρ D G fun x ρ' D' G' => match x with
  | .normal => W P f n b ro ρ' D' G' Q
  | x => Q x ρ' D' G') : W P f n (.seq a b) ro ρ D G Q := by
 intro code c E D1 ro1 h1 h2 h3 h4 h5 h6
 obtain ⟨ca, cb, rfl, ha, hb⟩ := inv_seq h1
 simp only [LC.ok, Bool.and_eq_true] at h2
 obtain ⟨m, x, E', D1', c', ρ', D', G', q1, q2, q3, q4, q5, q6⟩ := h ca c E D1 ro1 ha h2.1 h3 h4 h5 h6
 cases x with
 | normal =>
  obtain ⟨m2, x, E2, D2, c2, ρ2, D2', G2, r1, r2, r3, r4, r5, r6⟩ := q6 cb c' E' D1' ro1 hb h2.2 q2 q4 q5 (h6.mono q3.le)
  refine ⟨max m m2, x, E2, D2, c2, ρ2, D2', G2, ?_, r2, .trans h3 q2 q3 r3, r4, r5, r6⟩
  simp only [compCode]
  rw [compCode_mono (callA_mono (Nat.le_max_left m m2)) (Nat.le_max_left m m2) _ q1]
  exact compCode_mono (callA_mono (Nat.le_max_right m m2)) (Nat.le_max_right m m2) _ r1
 | exit id =>
  refine ⟨m, .exit id, E', D1', c', ρ', D', G', ?_, q2, q3, q4, q5, q6⟩
  simp only [compCode]
  rw [q1]
 | ret =>
  refine ⟨m, .ret, E', D1', c', ρ', D', G', ?_, q2, q3, q4, q5, q6⟩
  simp only [compCode]
  rw [q1]
theorem W_cond {x : Lx} {a b : LC} {t : Bool} (hx : x.ev ρ = .bool t) (ha : t = true → W P f n a ro ρ D G Q) (hb : t = false → W P f n b ro ρ D G Q) : W P f n (.cond x a b) ro ρ D G Q := by
 intro code c E D1 ro1 h1 h2 h3 h4 h5 h6
 obtain ⟨cx, ca, cb, rfl, hcx, hca, hcb⟩ := inv_cond h1
 simp only [LC.ok, Bool.and_eq_true] at h2
 have hv := Lx_ok h4 h2.1.1
 have hE := resO_ok hcx (EnvR_ρA E)
 have hvb : x.r.ev (ρA E) = .bool t := by
  rw [hx] at hv
  generalize x.r.ev (ρA E) = w at hv
  cases hv; rfl
 rw [hvb] at hE
 cases t with
 | true =>
  obtain ⟨m, x, E', D1', c', ρ', D', G', q1, q⟩ := ha rfl ca c E D1 ro1 hca h2.1.2 h3 h4 h5 h6
  refine ⟨m, x, E', D1', c', ρ', D', G', ?_, q⟩
  simp only [compCode]
  rw [hE]
  exact q1
 | false =>
  obtain ⟨m, x, E', D1', c', ρ', D', G', q1, q⟩ := hb rfl cb c E D1 ro1 hcb h2.2 h3 h4 h5 h6
  refine ⟨m, x, E', D1', c', ρ', D', G', ?_, q⟩
  simp only [compCode]
  rw [hE]
  exact q1
theorem W_block {id : Nat} {s : LC} (h : W P f n s ro ρ D G fun x ρ' D' G' => match x with
  | .exit i => if i = id then Q .normal ρ' D' G' else Q (.exit i) ρ' D' G'
  | x => Q x ρ' D' G') : W P f n (.block id s) ro ρ D G Q := by
 intro code c E D1 ro1 h1 h2 h3 h4 h5 h6
 obtain ⟨ca, rfl, hca⟩ := inv_block h1
 obtain ⟨m, x, E', D1', c', ρ', D', G', q1, q2, q3, q4, q5, q6⟩ := h ca c E D1 ro1 hca h2 h3 h4 h5 h6
 cases x with
 | normal =>
  refine ⟨m, .normal, E', D1', c', ρ', D', G', ?_, q2, q3, q4, q5, q6⟩
  simp only [compCode]
  rw [q1]
 | exit i =>
  dsimp only at q6
  by_cases e : i = id
  ·rw [if_pos e] at q6
   refine ⟨m, .normal, E', D1', c', ρ', D', G', ?_, q2, q3, q4, q5, q6⟩
   simp only [compCode]
   rw [q1, e]
   dsimp only
   rw [Nat.beq_refl]
  ·rw [if_neg e] at q6
   refine ⟨m, .exit i, E', D1', c', ρ', D', G', ?_, q2, q3, q4, q5, q6⟩
   simp only [compCode]
   rw [q1]
   dsimp only
   cases hb : Nat.beq i id with
   | true => exact absurd (Nat.eq_of_beq_eq_true hb) e
   | false => rfl
 | ret =>
  refine ⟨m, .ret, E', D1', c', ρ', D', G', ?_, q2, q3, q4, q5, q6⟩
  simp only [compCode]
  rw [q1]
theorem W_loop {s : LC} (I : LEnv → List Nat → LHeap → Nat → Prop) {N : Nat} (h0 : I ρ D G N)
  (h : ∀ N ρ D G, I ρ D G N → W P f n s ro ρ D G fun x ρ' D' G' => match x with
   | .normal => ∃ N', N' < N ∧ I ρ' D' G' N'
   | x => Q x ρ' D' G') : W P f n (.loop s) ro ρ D G Q := by
 intro code c E D1 ro1 h1 h2 h3 h4 h5 h6
 obtain ⟨ca, rfl, hca⟩ := inv_loop h1
 have key : ∀ N, ∀ (c : Cx) (E : Tr AV) (D1 : List Nat) (ρ : LEnv) (D : List Nat) (G : LHeap), I ρ D G N → HSim c G → EnvL c ρ E → DRs c D D1 → ROr c ro ro1 →
   ∃ m m' x E' D1' c' ρ' D' G', loopA ((compCode P f n ca).run (callA P (OL P) m) m ro1) m' E D1 c.H = .ok x E' D1' c'.H ∧ HSim c' G' ∧ Step c G c' G' ∧ EnvL c' ρ' E' ∧ DRs c' D' D1' ∧ Q x ρ' D' G' := by
  intro N
  induction N using Nat.strongRecOn with
  | _ N ih =>
   intro c E D1 ρ D G hI h3 h4 h5 h6
   obtain ⟨m, x, E', D1', c', ρ', D', G', q1, q2, q3, q4, q5, q6⟩ := h N ρ D G hI ca c E D1 ro1 hca h2 h3 h4 h5 h6
   cases x with
   | normal =>
    obtain ⟨N', hN, hI'⟩ := q6
    obtain ⟨m2, m2', x, E2, D2, c2, ρ2, D2', G2, r1, r2, r3, r4, r5, r6⟩ := ih N' hN c' E' D1' ρ' D' G' hI' q2 q4 q5 (h6.mono q3.le)
    refine ⟨max m m2, m2' + 1, x, E2, D2, c2, ρ2, D2', G2, ?_, r2, .trans h3 q2 q3 r3, r4, r5, r6⟩
    simp only [loopA]
    rw [compCode_mono (callA_mono (Nat.le_max_left m m2)) (Nat.le_max_left m m2) _ q1]
    exact loopA_mono (fun _ _ _ _ _ _ _ e => compCode_mono (callA_mono (Nat.le_max_right m m2)) (Nat.le_max_right m m2) _ e) (Nat.le_refl _) r1
   | exit id =>
    refine ⟨m, 1, .exit id, E', D1', c', ρ', D', G', ?_, q2, q3, q4, q5, q6⟩
    simp only [loopA]
    rw [q1]
   | ret =>
    refine ⟨m, 1, .ret, E', D1', c', ρ', D', G', ?_, q2, q3, q4, q5, q6⟩
    simp only [loopA]
    rw [q1]
 obtain ⟨m, m', x, E', D1', c', ρ', D', G', q1, q⟩ := key N c E D1 ρ D G h0 h3 h4 h5 h6
 refine ⟨max m m', x, E', D1', c', ρ', D', G', ?_, q⟩
 simp only [compCode]
 exact loopA_mono (fun _ _ _ _ _ _ _ e => compCode_mono (callA_mono (Nat.le_max_left m m')) (Nat.le_max_left m m') _ e) (Nat.le_max_right m m') q1
end rules
inductive RRes where
 | tmp (t : Nat)
 | cell1 (t : Nat)
 | cellN (t n : Nat)
noncomputable def resR (P : Program) : ResultVar → Option RRes
 | .tmp t => match Nat.ble t lim with
  | true => some (.tmp t)
  | false => none
 | .cell a t => match Nat.ble a lim with
  | true => match aggT P t, sizeT P t with
   | some true, some n => some (.cellN a n)
   | some false, some _ => some (.cell1 a)
   | _, _ => none
  | false => none
noncomputable def resRs (P : Program) : List ResultVar → Option (List RRes)
 | [] => some []
 | r :: l => match resR P r with
  | none => none
  | some a => match resRs P l with
   | none => none
   | some b => some (a :: b)
structure RF where
 n : Nat
 c : RC
 rs : List RRes
noncomputable def resFn (P : Program) (f : Nat) : Option RF :=
 match callable P f && !(isClone P f) && !(takenF P f) with
 | false => none
 | true => match P.funcs[f]? with
  | none => none
  | some fn => match fn.body with
   | none => none
   | some b => match Nat.ble fn.ntmps lim with
    | false => none
    | true => match resC P fn.ntmps b with
     | none => none
     | some c => match resRs P fn.results.toList with
      | none => none
      | some rs => some ⟨fn.ntmps, c, rs⟩
noncomputable def resL (ρ : LEnv) (G : LHeap) : List RRes → (List LV → Prop) → Prop
 | [], K => K []
 | r :: l, K => match r with
  | .tmp t => resL ρ G l fun vs => K (lk ρ t :: vs)
  | .cell1 t => read1 G (lk ρ t) fun v => resL ρ G l fun vs => K (v :: vs)
  | .cellN t n => readL G (lk ρ t) n fun cs => resL ρ G l fun vs => K (.agg cs :: vs)
def oneL : List LV → LV
 | [v] => v
 | l => .tup l
def argsL : List LV → Nat → LEnv
 | [], _ => []
 | v :: l, i => (i, v) :: argsL l (i + 1)
def takeL : List Nat → LHeap → (LHeap → Prop) → Prop
 | [], G, K => K G
 | d :: l, G, K => match G[d]? with
  | some (.defd true) => takeL l (G.set d (.defd false)) K
  | _ => False
section fns
variable {P : Program}
theorem resR_ok {c : Cx} {G : LHeap} {ρ : LEnv} {E : Tr AV} (hs : HSim c G) (hE : EnvL c ρ E) : ∀ {l : List ResultVar} {rs : List RRes} {K : List LV → Prop}, resRs P l = some rs → resL ρ G rs K → ∃ vs as, (ressF P l).run E c.H = some as ∧ ARs c vs as ∧ K vs
 | [], rs, K, h, k => by cases h; exact ⟨[], [], rfl, .nil, k⟩
 | r :: l, rs, K, h, k => by
  simp only [resRs] at h
  split at h
  ·cases h
  ·rename_i a ha
   split at h
   ·cases h
   ·rename_i b hb
    cases h
    simp only [ressF]
    cases r with
    | tmp t =>
     simp only [resR] at ha
     split at ha
     ·rename_i hl
      cases ha
      obtain ⟨vs, as, q1, q2, q3⟩ := resR_ok hs hE hb (show resL ρ G b (fun vs => K (lk ρ t :: vs)) from k)
      have hop : (opd (.tmp t)).run E = some ((getP (pathOf t) E).getD undefA) := by
       unfold opd
       dsimp only
       rw [hl]
       dsimp only
       cases getP (pathOf t) E <;> rfl
      refine ⟨_, _, ?_, .cons (hE t) q2, q3⟩
      simp only [resF]
      rw [hop, q1]
     ·cases ha
    | cell t ty =>
     simp only [resR] at ha
     split at ha
     ·rename_i hl
      have hop : (opd (.tmp t)).run E = some ((getP (pathOf t) E).getD undefA) := by
       unfold opd
       dsimp only
       rw [hl]
       dsimp only
       cases getP (pathOf t) E <;> rfl
      split at ha
      ·rename_i m h1 h2
       cases ha
       obtain ⟨o, v, i, l', cs, p1, p2, p3, p4⟩ := readL_ok hs (hE t) (show readL G (lk ρ t) m (fun cs => resL ρ G b fun vs => K (.agg cs :: vs)) from k)
       obtain ⟨vs, as, q1, q2, q3⟩ := resR_ok hs hE hb p4
       refine ⟨_, _, ?_, .cons (.agg p3) q2, q3⟩
       simp only [Sv.resF, h1, h2]
       rw [hop, p1]
       dsimp only
       rw [p2, q1]
      ·rename_i m h1 h2
       cases ha
       obtain ⟨o, v, i, w, bb, p1, p2, p3, p4⟩ := read1_ok hs (hE t) (show read1 G (lk ρ t) (fun v => resL ρ G b fun vs => K (v :: vs)) from k)
       obtain ⟨vs, as, q1, q2, q3⟩ := resR_ok hs hE hb p4
       refine ⟨_, _, ?_, .cons p3 q2, q3⟩
       simp only [Sv.resF, h1, h2]
       rw [hop, p1]
       dsimp only
       rw [p2]
       dsimp only
       rw [q1]
      ·cases ha
     ·cases ha
end fns
end Go.Sv
