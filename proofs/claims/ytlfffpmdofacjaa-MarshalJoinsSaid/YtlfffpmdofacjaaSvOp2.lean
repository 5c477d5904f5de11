/- Operations with all that hangs on the program's types worked in are the evaluator's operations. -/
import Derived.Test.YtlfffpmdofacjaaSvOp
namespace Go.Sv
section ok
variable {P : Program} {E : Tr AV} {ρ : Env}
theorem resOp_ok (hE : EnvR E ρ) {o : Op} {r : ROp} (h : resOp P o = some r) (H : Heap) : (compOp P o).run E H = evR P ρ H r := by
  cases o with
  | move x =>
    obtain ⟨q, h1, rfl⟩ := res1_ok h
    show (unary1 x _).run E H = _
    rw [unary1_run hE h1]; rfl
  | assign x =>
    obtain ⟨q, h1, rfl⟩ := res1_ok h
    show (unary1 x _).run E H = _
    rw [unary1_run hE h1]; rfl
  | pick c a b =>
    simp only [resOp] at h
    split at h
    · rename_i c' a' b' h1 h2 h3
      cases h
      simp only [compOp]
      rw [resO_ok h1 hE, resO_ok h2 hE, resO_ok h3 hE]
      simp only [evR]
      generalize c'.ev ρ = v
      cases v with
      | bool t => cases t <;> rfl
      | _ => rfl
    · cases h
  | alloc t =>
    simp only [resOp] at h
    simp only [compOp]
    cases hz : zeroT P t with
    | none => rw [hz] at h; cases h
    | some l => rw [hz] at h; cases h; rfl
  | box t x =>
    obtain ⟨q, h1, rfl⟩ := res1_ok h
    show (unary1 x _).run E H = _
    rw [unary1_run hE h1]; rfl
  | build t parts =>
    simp only [resOp] at h
    simp only [compOp, buildF]
    cases hz : zeroT P t with
    | none => rw [hz] at h; cases h
    | some cs =>
      rw [hz] at h
      dsimp only at h ⊢
      split at h
      · rename_i fields hu
        rw [hu]
        dsimp only
        cases hf : fieldsAt P fields.toList with
        | none => rw [hf] at h; cases h
        | some pl =>
          rw [hf] at h
          dsimp only at h ⊢
          cases hp : resParts (pl[·]?) parts.toList with
          | none => rw [hp] at h; cases h
          | some ps =>
            rw [hp] at h
            cases h
            obtain ⟨qs, h1, h2⟩ := fillA_run hE (cs := cs) hp
            rw [h1]
            dsimp only
            rw [h2]
            rfl
      · rename_i n elem hu
        rw [hu]
        dsimp only
        cases hs : sizeT P elem with
        | none => rw [hs] at h; cases h
        | some size =>
          rw [hs] at h
          dsimp only at h ⊢
          cases hp : resParts (fun i => some (i * size, size)) parts.toList with
          | none => rw [hp] at h; cases h
          | some ps =>
            rw [hp] at h
            cases h
            obtain ⟨qs, h1, h2⟩ := fillA_run hE (cs := cs) hp
            rw [h1]
            dsimp only
            rw [h2]
            rfl
      · cases h
  | buildSlice t len parts =>
    simp only [resOp] at h
    simp only [compOp, buildSliceF]
    split at h
    · rename_i elem hu
      rw [hu]
      dsimp only
      cases hs : sizeT P elem with
      | none => rw [hs] at h; cases h
      | some size =>
        rw [hs] at h
        dsimp only at h ⊢
        cases hz : zeroT P elem with
        | none => rw [hz] at h; cases h
        | some z =>
          rw [hz] at h
          dsimp only at h ⊢
          split at h
          · rename_i hc
            rw [if_pos hc]
            cases hp : resParts (fun i => some (i * size, size)) parts.toList with
            | none => rw [hp] at h; cases h
            | some ps =>
              rw [hp] at h
              cases h
              obtain ⟨qs, h1, h2⟩ := fillA_run hE (cs := repeatL z len) hp
              rw [h1]
              dsimp only
              rw [h2]
              rfl
          · cases h
    · cases h
  | load t a =>
    simp only [resOp] at h
    simp only [compOp, loadF]
    split at h
    · rename_i n h1 h2
      obtain ⟨q, h3, rfl⟩ := res1_ok h
      rw [h1, h2]
      dsimp only
      rw [unary1_run hE h3]; rfl
    · rename_i n h1 h2
      obtain ⟨q, h3, rfl⟩ := res1_ok h
      rw [h1, h2]
      dsimp only
      rw [unary1_run hE h3]; rfl
    · cases h
  | store t a x =>
    simp only [resOp] at h
    simp only [compOp, storeF]
    cases hs : sizeT P t with
    | none => rw [hs] at h; cases h
    | some n =>
      rw [hs] at h
      obtain ⟨q, p, h1, h2, rfl⟩ := res2_ok h
      dsimp only
      rw [binary2_run hE h1 h2]; rfl
  | nilCheck x =>
    obtain ⟨q, h1, rfl⟩ := res1_ok h
    show (unary1 x _).run E H = _
    rw [unary1_run hE h1]; rfl
  | binOp op t x y yt =>
    obtain ⟨q, p, h1, h2, rfl⟩ := res2_ok h
    simp only [compOp]
    rw [binary2_run hE h1 h2]; rfl
  | unOp op t x =>
    obtain ⟨q, h1, rfl⟩ := res1_ok h
    show (unary1 x _).run E H = _
    rw [unary1_run hE h1]; rfl
  | convert s d x =>
    simp only [resOp] at h
    simp only [compOp]
    unfold convF
    split at h
    · rename_i d1 k h1 h2
      obtain ⟨q, h3, rfl⟩ := res1_ok h
      rw [h1, h2]
      dsimp only
      rw [unary1_run hE h3]; rfl
    · rename_i e h1 h2
      rw [h1, h2]
      dsimp only
      split at h
      · rename_i hu
        rw [hu]
        dsimp only
        obtain ⟨q, h3, rfl⟩ := res1_ok h
        rw [unary1_run hE h3]; rfl
      · cases h
    · rename_i d1 hne h1 h2
      obtain ⟨q, h3, rfl⟩ := res1_ok h
      rw [h1, h2]
      cases d1 with
      | slice e => exact absurd rfl (hne e)
      | _ => dsimp only; rw [unary1_run hE h3]; rfl
    · rename_i d1 e h1 h2
      rw [h1, h2]
      dsimp only
      split at h
      · rename_i k1 k2
        obtain ⟨q, h3, rfl⟩ := res1_ok h
        rw [k1, k2]
        exact (unary1_run hE h3 _ _).trans rfl
      · cases h
    · cases h
  | makeInterface t x =>
    simp only [resOp] at h
    simp only [compOp, mkIfaceF]
    cases hu : P.underlying t with
    | none => rw [hu] at h; cases h
    | some d =>
      rw [hu] at h
      cases d with
      | interface ms => cases h
      | _ => obtain ⟨q, h1, rfl⟩ := res1_ok h; dsimp only; rw [unary1_run hE h1]; rfl
  | makeFunc f first cap =>
    simp only [resOp] at h
    cases f with
    | yield l => cases h
    | _ =>
      dsimp only at h
      split at h
      · rename_i a b h1 h2
        cases h
        simp only [compOp, mkFuncF]
        rw [resOs_ok h1 hE, resOs_ok h2 hE]
        rfl
      · cases h
  | makeMap t r =>
    simp only [resOp] at h
    simp only [compOp, mkMapF]
    cases r with
    | none => cases h; rfl
    | some x =>
      dsimp only at h ⊢
      split at h
      · rename_i k e hu
        obtain ⟨q, h1, rfl⟩ := res1_ok h
        rw [hu]
        dsimp only
        rw [unary1_run hE h1]; rfl
      · cases h
  | makeSlice t l c =>
    simp only [resOp] at h
    simp only [compOp, mkSliceF]
    split at h
    · rename_i elem hu
      rw [hu]
      dsimp only
      cases hi : P.info? elem with
      | none => rw [hi] at h; cases h
      | some i =>
        rw [hi] at h
        dsimp only at h ⊢
        cases hz : zeroT P elem with
        | none => rw [hz] at h; cases h
        | some z =>
          rw [hz] at h
          dsimp only at h ⊢
          split at h
          · rename_i hc
            obtain ⟨q, p, h1, h2, rfl⟩ := res2_ok h
            rw [if_pos hc, binary2_run hE h1 h2]; rfl
          · cases h
    · cases h
  | slice t x lo hi mx =>
    simp only [resOp] at h
    simp only [compOp, sliceF]
    split at h
    · rename_i hu
      rw [hu]
      dsimp only
      cases mx with
      | some m => cases h
      | none =>
        dsimp only at h ⊢
        split at h
        · rename_i q a b h1 h2 h3
          cases h
          rw [resO_ok h1 hE, resOpt_ok h2 hE, resOpt_ok h3 hE]
          simp only [evR]
          cases q.ev ρ with
          | str len n =>
            cases optR ρ a with
            | none => rfl
            | some a' => cases optR ρ b <;> rfl
          | _ => rfl
        · cases h
    · rename_i elem hu
      rw [hu]
      dsimp only
      split at h
      · cases h
      · rename_i hc
        rw [if_neg hc]
        cases hs : sizeT P elem with
        | none => rw [hs] at h; cases h
        | some size =>
          rw [hs] at h
          obtain ⟨q, a, b, c, h1, h2, h3, h4, rfl⟩ := resSlice_ok h
          dsimp only
          rw [resO_ok h1 hE, resOpt_ok h2 hE, resOpt_ok h3 hE, resOpt_ok h4 hE]
          simp only [evR]
          generalize q.ev ρ = v
          generalize optR ρ a = a'
          generalize optR ρ b = b'
          generalize optR ρ c = c'
          cases v <;> cases a' <;> cases b' <;> cases c' <;> try rfl
          all_goals (rename_i z; cases z <;> rfl)
    · rename_i n elem hu
      rw [hu]
      dsimp only
      split at h
      · cases h
      · rename_i hc
        rw [if_neg hc]
        cases hs : sizeT P elem with
        | none => rw [hs] at h; cases h
        | some size =>
          rw [hs] at h
          obtain ⟨q, a, b, c, h1, h2, h3, h4, rfl⟩ := resSlice_ok h
          dsimp only
          rw [resO_ok h1 hE, resOpt_ok h2 hE, resOpt_ok h3 hE, resOpt_ok h4 hE]
          simp only [evR]
          generalize q.ev ρ = v
          generalize optR ρ a = a'
          generalize optR ρ b = b'
          generalize optR ρ c = c'
          cases v <;> cases a' <;> cases b' <;> cases c' <;> rfl
    · cases h
  | fieldAddr s x f =>
    simp only [resOp] at h
    simp only [compOp, fieldAddrF]
    split at h
    · rename_i fields hu
      rw [hu]
      dsimp only
      cases hf : fields[f]? with
      | none => rw [hf] at h; cases h
      | some fd =>
        rw [hf] at h
        dsimp only at h ⊢
        split at h
        · cases h
        · cases h
        · rename_i n hn hs
          obtain ⟨q, h1, rfl⟩ := res1_ok h
          rw [hs]
          cases n with
          | zero => exact absurd rfl hn
          | succ n => exact (unary1_run hE h1 _ _).trans rfl
    · cases h
  | field t x f =>
    simp only [resOp] at h
    simp only [compOp, fieldF]
    split at h
    · rename_i fields hu
      rw [hu]
      dsimp only
      cases hf : fields[f]? with
      | none => rw [hf] at h; cases h
      | some fd =>
        rw [hf] at h
        dsimp only at h ⊢
        split at h
        · rename_i g n h1 h2
          obtain ⟨q, h3, rfl⟩ := res1_ok h
          rw [h1, h2]
          dsimp only
          rw [unary1_run hE h3]; rfl
        · cases h
    · cases h
  | indexAddr t x i =>
    simp only [resOp] at h
    simp only [compOp, indexAddrF]
    split at h
    · rename_i elem hu
      rw [hu]
      dsimp only
      cases hs : sizeT P elem with
      | none => rw [hs] at h; cases h
      | some size =>
        rw [hs] at h
        obtain ⟨q, p, h1, h2, rfl⟩ := res2_ok h
        dsimp only
        rw [binary2_run hE h1 h2]; rfl
    · rename_i len elem hu
      rw [hu]
      dsimp only
      cases hs : sizeT P elem with
      | none => rw [hs] at h; cases h
      | some size =>
        rw [hs] at h
        obtain ⟨q, p, h1, h2, rfl⟩ := res2_ok h
        dsimp only
        rw [binary2_run hE h1 h2]; rfl
    · cases h
  | index t x i =>
    simp only [resOp] at h
    simp only [compOp, indexF]
    split at h
    · rename_i hu
      obtain ⟨q, p, h1, h2, rfl⟩ := res2_ok h
      rw [hu]
      dsimp only
      rw [binary2_run hE h1 h2]; rfl
    · rename_i len elem hu
      rw [hu]
      dsimp only
      split at h
      · rename_i g size hg hs
        obtain ⟨q, p, h1, h2, rfl⟩ := res2_ok h
        rw [hg, hs]
        dsimp only
        rw [binary2_run hE h1 h2]; rfl
      · cases h
    · cases h
  | lookup t x i ok =>
    simp only [resOp] at h
    simp only [compOp, lookupF]
    split at h
    · rename_i key elem hu
      rw [hu]
      dsimp only
      split at h
      · rename_i d z hd hz
        obtain ⟨q, p, h1, h2, rfl⟩ := res2_ok h
        rw [hd, hz]
        dsimp only
        rw [binary2_run hE h1 h2]; rfl
      · cases h
    · cases h
  | mapUpdate t m k x =>
    simp only [resOp] at h
    simp only [compOp, mapUpdateF]
    split at h
    · rename_i key elem hu
      rw [hu]
      dsimp only
      split at h
      · rename_i d hd
        rw [hd]
        dsimp only
        split at h
        · rename_i a b c h1 h2 h3
          cases h
          rw [resO_ok h1 hE, resO_ok h2 hE, resO_ok h3 hE]
          simp only [evR]
          cases a.ev ρ <;> rfl
        · cases h
      · cases h
    · cases h
  | insert t m k x =>
    simp only [resOp] at h
    simp only [compOp, mapUpdateF]
    split at h
    · rename_i key elem hu
      rw [hu]
      dsimp only
      split at h
      · rename_i d hd
        rw [hd]
        dsimp only
        split at h
        · rename_i a b c h1 h2 h3
          cases h
          rw [resO_ok h1 hE, resO_ok h2 hE, resO_ok h3 hE]
          simp only [evR]
          cases a.ev ρ <;> rfl
        · cases h
      · cases h
    · cases h
  | range t x =>
    simp only [resOp] at h
    simp only [compOp, rangeF]
    split at h
    · rename_i hu
      obtain ⟨q, h1, rfl⟩ := res1_ok h
      rw [hu]
      dsimp only
      rw [unary1_run hE h1]; rfl
    · cases h
  | next it s =>
    simp only [resOp] at h
    simp only [compOp, nextF]
    cases s with
    | false => cases h
    | true =>
      obtain ⟨q, h1, rfl⟩ := res1_ok h
      rw [if_pos rfl, unary1_run hE h1]; rfl
  | typeAssert x xt t ok =>
    simp only [resOp] at h
    simp only [compOp, assertF]
    cases hu : P.underlying t with
    | none => rw [hu] at h; cases h
    | some d =>
      rw [hu] at h
      cases d with
      | interface ms => cases h
      | _ =>
        dsimp only at h ⊢
        cases hz : zeroV P t with
        | none => rw [hz] at h; cases h
        | some z => rw [hz] at h; obtain ⟨q, h1, rfl⟩ := res1_ok h; dsimp only; rw [unary1_run hE h1]; rfl
  | extract t i =>
    obtain ⟨q, h1, rfl⟩ := res1_ok h
    show (unary1 t _).run E H = _
    rw [unary1_run hE h1]; rfl
  | call c => exact resCall_ok hE h H
  | _ => cases h
end ok
end Go.Sv
