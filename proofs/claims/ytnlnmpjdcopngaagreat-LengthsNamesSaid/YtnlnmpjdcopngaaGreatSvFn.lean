/- The evaluator's calls against the machine's; a closed run. -/
import Derived.Test.YtnlnmpjdcopngaaGreatSvCode
namespace Go.Sv
open Go.RowKit (Below)

/-! ### What a function hands back -/
theorem resF_ok {P : Program} {r : ResultVar} {n : Nat} {w0 : World} {C : CM} {E : Tr AV} {H : Heap} {w : World} {a : Act} (hR : Rel w0 C H w) (hE : ER n C E a.tmps) {v : AV} (h : (resF P r).run E H = some v) :
    ∃ x, (match r with
      | .tmp t => pure (a.tmps.getD t undef)
      | .cell c t => do loadVar t (← asAddr (a.tmps.getD c undef)) : Sem Value).run P w = .ok x w ∧ VR C v x := by
  have htmp : ∀ t, a.eval (.tmp t) = a.tmps.getD t undef := fun t => by
    show a.tmps.getD t undef = _
    rfl
  cases r with
  | tmp t =>
    simp only [resF] at h
    have := opd_spec hE _ _ h
    rw [htmp] at this
    exact ⟨_, by simp [Sem.run_pure], this⟩
  | cell c t =>
    unfold resF at h
    dsimp only at h ⊢
    split at h
    · rename_i n ha hs
      dsimp only at h
      split at h
      · rename_i o ver i ho
        split at h
        · rename_i l hl
          cases h
          have hv := opd_spec hE _ _ ho
          rw [htmp] at hv
          generalize a.tmps.getD c undef = px at hv
          cases hv with
          | ptr hL =>
            obtain ⟨vs, h1, h2, h3, h4, _⟩ := hR.read P hl hL
            exact ⟨.agg vs.toArray, by simp [asAddr, loadVar, run_isAgg ha, run_size hs, h1], .agg (by simpa using h2) h3⟩
        · cases h
      · cases h
    · rename_i n ha hs
      dsimp only at h
      split at h
      · rename_i o ver i ho
        split at h
        · rename_i cv hl
          cases h
          have hv := opd_spec hE _ _ ho
          rw [htmp] at hv
          generalize a.tmps.getD c undef = px at hv
          cases hv with
          | ptr hL =>
            obtain ⟨vs, h1, h2, h3, h4, h5, h6⟩ := hR.read P hl hL
            have h6' := h6 0 (by omega)
            match vs, h2 with
            | [u], .cons hu .nil =>
              simp only [Nat.add_zero, List.getElem?_cons_zero] at h6'
              exact ⟨u, by simp [asAddr, loadVar, run_isAgg ha, h6'], hu⟩
        · cases h
      · cases h
    · cases h

theorem ressF_ok {P : Program} {n : Nat} {w0 : World} {C : CM} {E : Tr AV} {H : Heap} {w : World} {a : Act} (hR : Rel w0 C H w) (hE : ER n C E a.tmps) : ∀ {l : List ResultVar} {vs : List AV}, (ressF P l).run E H = some vs →
    ∃ xs, (l.mapM fun
      | .tmp t => pure (a.tmps.getD t undef)
      | .cell c t => do loadVar t (← asAddr (a.tmps.getD c undef)) : Sem (List Value)).run P w = .ok xs w ∧ VRs C vs xs
  | [], vs, h => by
    cases h
    exact ⟨[], by simp [Sem.run_pure], .nil⟩
  | r :: l, vs, h => by
    simp only [ressF] at h
    split at h
    · cases h
    · rename_i v hv
      split at h
      · cases h
      · rename_i vs' hvs
        cases h
        obtain ⟨x, h1, h2⟩ := resF_ok hR hE hv
        obtain ⟨xs, h3, h4⟩ := ressF_ok hR hE hvs
        refine ⟨x :: xs, ?_, .cons h2 h4⟩
        rw [List.mapM_cons, Sem.run_bind]
        have h1' := h1
        cases r <;> (dsimp only at h1' ⊢; rw [h1']; simp only [Result.andThen_ok, Sem.run_bind, h3, Sem.run_pure])

theorem results_ok {P : Program} {fn : Func} {n : Nat} {w0 : World} {C : CM} {E : Tr AV} {H : Heap} {w : World} {a : Act} (hR : Rel w0 C H w) (hE : ER n C E a.tmps) {vs : List AV} (h : (ressF P fn.results.toList).run E H = some vs) :
    ∃ x, (results fn a.tmps).run P w = .ok x w ∧ VR C (match vs with
      | [v] => v
      | l => .tup l) x := by
  obtain ⟨xs, h1, h2⟩ := ressF_ok hR hE h
  have hm : (fn.results.mapM fun
      | .tmp t => pure (a.tmps.getD t undef)
      | .cell c t => do loadVar t (← asAddr (a.tmps.getD c undef)) : Sem (Array Value)).run P w = .ok xs.toArray w := by
    rw [Array.mapM_eq_mapM_toList]
    rw [map_eq_pure_bind, Sem.run_bind, h1]
    rfl
  refine ⟨if h : xs.toArray.size = 1 then xs.toArray[0] else .tuple xs.toArray, ?_, ?_⟩
  · unfold results
    rw [Sem.run_bind]
    exact (congrArg (fun r => Result.andThen r _) hm).trans rfl
  · cases h2 with
    | nil => exact .tup .nil
    | cons e es =>
      cases es with
      | nil => exact e
      | cons e' es' =>
        simp only [List.size_toArray, List.length_cons]
        rw [dif_neg (by omega)]
        exact .tup (.cons e (.cons e' es'))

/-! ### The marks at a return -/
theorem step_mark {P : Program} {fr : Frame} {cs : List Frame} {w : World} {blk : Nat} {ds : List Deferred} (hm : fr.mode = .returning) (hd : fr.defers = { target := .collected blk, args := #[] } :: ds) (hw : w.heap[blk]? = some (.deferred (some []))) :
    step P (lone fr cs w) = .next (lone { fr with defers := ds } cs (w.putObj blk (.deferred none))) :=
  step_lone_go (by simp [stepG, unwind, hm, hd, Sem.runT_eq, run_takeDeferred hw, GStep.bare_after])

theorem marks_ok {P : Program} {w0 : World} {C : CM} : ∀ {D : List Nat} {ds : List Deferred} {H H' : Heap} {w : World} {fr : Frame} (cs : List Frame), DR C D ds → takeDefs D H = some H' → Rel w0 C H w → fr.mode = .returning → fr.defers = ds →
    ∃ w', Rel w0 C H' w' ∧ Steps P (lone fr cs w) (lone { fr with defers := [] } cs w')
  | _, _, H, H', w, fr, cs, .nil, h, hR, hm, hd => by
    cases h
    refine ⟨w, hR, ?_⟩
    have : fr = { fr with defers := [] } := by cases fr; cases hd; rfl
    rw [← this]
    exact .refl _ _
  | _, _, H, H', w, fr, cs, .cons (d := d) (L := L) (r := r) hL hs, h, hR, hm, hd => by
    simp only [takeDefs] at h
    split at h
    · rename_i hg
      obtain ⟨hB, hw⟩ := hR.obj _ _ (hR.fresh _ _ _ hL) hg L hL
      have hR' : Rel w0 C (H.put d (.defd false)) (w.putObj L.b (.deferred none)) := hR.putBlock hL hB (fun _ _ _ _ e => by cases e) (fun hnew L' hL' => by
        rw [hL] at hL'; cases hL'
        exact ⟨hB, hnew⟩)
      obtain ⟨w', h1, h2⟩ := marks_ok (fr := { fr with defers := r }) cs hs h hR' hm rfl
      exact ⟨w', h1, .head (step_mark hm hd hw) h2⟩
    · cases h

/-! ### Temporaries at the start -/
theorem ER.start {C : CM} {args : List AV} {vs : List Value} (hv : VRs C args vs) {n : Nat} (hn : n ≤ lim) (hl : args.length ≤ n) : ER n C (ofListFrom args 0 .e) (vs.toArray ++ Array.replicate (n - vs.toArray.size) undef) := by
  have hlen := hv.length
  refine ⟨by simp; omega, hn, fun t ht => ?_⟩
  rw [get_ofList args 0 .e t, getP_e]
  rw [Array.getD_eq_getD_getElem?]
  by_cases h : t < args.length
  · rw [if_pos ⟨Nat.zero_le _, by omega⟩]
    obtain ⟨a, v, q1, q2, q3⟩ := hv.get' h
    rw [Nat.sub_zero, q1]
    rw [Array.getElem?_append_left (by simp; omega)]
    simp only [List.getElem?_toArray, q2, Option.getD_some]
    exact q3
  · rw [if_neg (by omega)]
    show _ = undef
    rw [Array.getElem?_append_right (by simp; omega), Array.getElem?_replicate]
    split <;> rfl

theorem setPs_ok {C : CM} : ∀ (ps : List Tmp) (args : List AV) (vs : List Value) {n : Nat} {E E' : Tr AV} {tm : Array Value}, setPs ps args n E = some E' → VRs C args vs → ER n C E tm →
    ps.length = vs.length ∧ ER n C E' ((ps.zip vs).foldl (fun tmps (t, a) => tmps.setIfInBounds t a) tm) := by
  intro ps
  induction ps with
  | nil =>
    intro args vs n E E' tm h hv hE
    cases hv with
    | nil => cases h; exact ⟨rfl, hE⟩
    | cons e es => cases h
  | cons p ps ih =>
    intro args vs n E E' tm h hv hE
    cases hv with
    | nil => cases h
    | cons e es =>
      simp only [setPs] at h
      split at h
      · rename_i hp
        have hp' : p < n := Nat.le_of_ble_eq_true hp
        have hE1 := ER.put (a := { tmps := tm, defers := [] }) hE (d := some p) (fun t ht => by cases ht; exact hp') e
        obtain ⟨h1, h2⟩ := ih _ _ h es hE1
        exact ⟨by simp [h1], h2⟩
      · cases h

/-! ### Calls -/
theorem compFn_ok {P : Program} (hm : P.follows .mixedOrders = true) {k : CallT} (hk : SoundCall P k) {f m : Nat} {w0 : World} {C : CM} {H H' : Heap} {w : World} {args : List AV} {vs : List Value} {v : AV} (hR : Rel w0 C H w) (hv : VRs C args vs)
    (h : (compFn P f).run k m args H = .ok v H') : CallSteps P w0 C w (.fn f) vs v H' := by
  unfold compFn at h
  split at h
  · cases h
  · rename_i fn hf
    split at h
    · cases h
    · rename_i body hbd
      split at h
      · rename_i hlim
        dsimp only at h
        split at h
        · cases h
        · rename_i hlen
          have hlen' : args.length ≤ fn.ntmps := Nat.le_of_ble_eq_true hlen
          split at h
          · cases h
          · rename_i x E D H1 hrun
            intro cs
            let b : Frame := { (default : Frame) with fn := f, kind := .normal, roundOf := none }
            have henter : Frame.enter P f vs.toArray .normal = b.atR { tmps := vs.toArray ++ Array.replicate (fn.ntmps - vs.toArray.size) undef, defers := [] } [.code body] := by
              simp [Frame.enter, Frame.atR, hf, hbd, b]
            obtain ⟨C1, w1, a1, q1, q2, q3⟩ := compCode_ok hm f fn.ntmps body k hk m none w0 C (ofListFrom args 0 .e) [] H { tmps := vs.toArray ++ Array.replicate (fn.ntmps - vs.toArray.size) undef, defers := [] } w b x E D H1
              ⟨hR, ER.start hv hlim hlen', .nil⟩ rfl trivial hrun [] cs
            rw [← henter] at q3
            have key : ∀ todo, Steps P (lone (Frame.enter P f vs.toArray .normal) cs w) (lone { b.atR a1 todo with mode := .returning } cs w1) →
                (match takeDefs D H1 with
                  | none => RV.no
                  | some H2 => match (ressF P fn.results.toList).run E H2 with
                    | some [v] => .ok v H2
                    | some l => .ok (.tup l) H2
                    | none => .no) = .ok v H' →
                ∃ C' w' v' fr, C.le C' ∧ Rel w0 C' H' w' ∧ VR C' v v' ∧ Steps P (lone (Frame.enter P f vs.toArray .normal) cs w) (lone fr cs w') ∧ fr.fn = f ∧ fr.leaving P w' (.returned v') := by
              intro todo hs he
              split at he
              · cases he
              · rename_i H2 htd
                obtain ⟨w2, r1, r2⟩ := marks_ok (fr := { b.atR a1 todo with mode := .returning }) cs q2.defs htd q2.rel rfl rfl
                split at he
                · rename_i v1 hres
                  cases he
                  obtain ⟨xv, s1, s2⟩ := results_ok (fn := fn) r1 q2.env hres
                  exact ⟨C1, w2, xv, _, q1, r1, s2, Steps.trans hs r2, rfl, rfl, rfl, rfl, fn, hf, s1⟩
                · rename_i l hne hres
                  cases he
                  obtain ⟨xv, s1, s2⟩ := results_ok (fn := fn) r1 q2.env hres
                  refine ⟨C1, w2, xv, _, q1, r1, ?_, Steps.trans hs r2, rfl, rfl, rfl, rfl, fn, hf, s1⟩
                  rcases l with _ | ⟨u, _ | ⟨u2, l⟩⟩
                  · exact s2
                  · exact absurd rfl (hne u)
                  · exact s2
                · cases he
            cases x with
            | exit id => cases h
            | normal => exact key [] (Steps.trans q3 (.one (stepR_end rfl))) h
            | ret =>
              obtain ⟨k1, s⟩ := q3
              exact key (.code .ret :: k1) (Steps.trans s (.one (stepR_ret rfl))) h
      · cases h

theorem endRound_ok {P : Program} {l : Nat} {x : Ex} {H H' : Heap} {v : AV} (h : endRoundA l x H = .ok v H') {w0 : World} {C : CM} {w : World} (hR : Rel w0 C H w) {L : Loc} (hL : C l 0 = some L) :
    ∃ w' xv, (Instr.endRound L.b (match x with
      | .normal => none
      | .ret => some .ret
      | .exit id => some (.exit id))).run P w = .ok xv w' ∧ Rel w0 C H' w' ∧ VR C v xv := by
  unfold endRoundA at h
  split at h
  · rename_i st pend f n E ps a b d hg
    obtain ⟨hB, tm, Ld, hd, hw, hE⟩ := hR.obj _ _ (hR.fresh _ _ _ hL) hg L hL
    split at h
    · cases h
      refine ⟨_, _, run_endRound none hw, hR.putBlock hL hB (fun _ _ _ _ e => by cases e) (fun hnew L' hL' => ?_), .bool true⟩
      rw [hL] at hL'; cases hL'
      exact ⟨hB, tm, Ld, hd, hnew, hE⟩
    · cases h
      refine ⟨_, _, run_endRound (some .ret) hw, hR.putBlock hL hB (fun _ _ _ _ e => by cases e) (fun hnew L' hL' => ?_), .bool false⟩
      rw [hL] at hL'; cases hL'
      exact ⟨hB, tm, Ld, hd, hnew, hE⟩
    · rename_i id
      cases h
      refine ⟨_, _, run_endRound (some (.exit id)) hw, hR.putBlock hL hB (fun _ _ _ _ e => by cases e) (fun hnew L' hL' => ?_), .bool false⟩
      rw [hL] at hL'; cases hL'
      exact ⟨hB, tm, Ld, hd, hnew, hE⟩
  · cases h

theorem begin_ok {P : Program} {l : Nat} {H H' : Heap} (h : beginA l H = some H') {w0 : World} {C : CM} {w : World} (hR : Rel w0 C H w) {L : Loc} (hL : C l 0 = some L) :
    ∃ w', (Instr.beginRound L.b).run P w = .ok () w' ∧ Rel w0 C H' w' := by
  unfold beginA at h
  split at h
  · rename_i pend f n E ps a b d hg
    cases h
    obtain ⟨hB, tm, Ld, hd, hw, hE⟩ := hR.obj _ _ (hR.fresh _ _ _ hL) hg L hL
    refine ⟨_, run_beginRound hw rfl, hR.putBlock hL hB (fun _ _ _ _ e => by cases e) (fun hnew L' hL' => ?_)⟩
    rw [hL] at hL'; cases hL'
    exact ⟨hB, tm, Ld, hd, hnew, hE⟩
  · cases h

theorem callA_sound {P : Program} (hm : P.follows .mixedOrders = true) {O : CallT} (hO : SoundCall P O) : ∀ m, SoundCall P (callA P O m)
  | 0 => fun _ _ _ _ _ _ _ _ _ _ _ h => by cases h
  | m + 1 => by
    have ih := callA_sound hm hO m
    intro w0 C H w t args vs v H' hR hv h
    unfold callA at h
    cases t with
    | fn f =>
      dsimp only at h
      split at h
      · rename_i v1 H1 ho
        cases h
        exact hO _ _ _ _ _ _ _ _ _ hR hv ho
      · exact compFn_ok hm ih hR hv h
    | yield l =>
      dsimp only at h
      split at h
      · rename_i f n E ps a b d hg
        split at h
        · cases h
        · rename_i E1 hE1
          split at h
          · rename_i E2 H2 hra
            split at h
            · cases h
            · rename_i H2' hbe
              split at h
              · cases h
              · rename_i x E3 D H3 hrb
                split at h
                · intro L hL c cs
                  obtain ⟨hB, tm, Ld, hd, hw, hE⟩ := hR.obj _ _ (hR.fresh _ _ _ hL) hg L hL
                  obtain ⟨hlen, hER⟩ := setPs_ok _ _ _ hE1 hv hE
                  have hy := run_yield (P := P) (args := vs.toArray) hw (by simpa using hlen.symm)
                  dsimp only at hy
                  have hfold : ((ps.zip vs.toArray).foldl (fun tmps (t, a) => tmps.setIfInBounds t a) tm) = ((ps.toList.zip vs).foldl (fun tmps (t, a) => tmps.setIfInBounds t a) tm) := by
                    rw [← Array.foldl_toList, Array.toList_zip]
                  rw [hfold] at hy
                  let bf : Frame := { (default : Frame) with fn := f, kind := .normal, roundOf := some L.b }
                  have hro : RO C (some l) bf.roundOf := ⟨L, hL, rfl⟩
                  obtain ⟨C1, w1, a1, q1, q2, q3⟩ := compCode_ok hm f n a (callA P O m) ih m (some l) w0 C E1 [] H { tmps := (ps.toList.zip vs).foldl (fun tmps (t, a) => tmps.setIfInBounds t a) tm, defers := [] } w bf .normal E2 [] H2
                    ⟨hR, hER, .nil⟩ rfl hro hra [.beginRound, .code b] (c :: cs)
                  obtain ⟨w2, r1, r2⟩ := begin_ok (P := P) hbe q2.rel (q1.keep _ _ _ hL)
                  obtain ⟨C2, w3, a3, s1, s2, s3⟩ := compCode_ok hm f n b (callA P O m) ih m (some l) w0 C1 E2 [] H2' a1 w2 bf x E3 [] H3 ⟨r2, q2.env, q2.defs⟩ rfl (hro.mono q1) hrb [] (c :: cs)
                  obtain ⟨w4, xv, t1, t2, t3⟩ := endRound_ok (P := P) h s2.rel (s1.keep _ _ _ (q1.keep _ _ _ hL))
                  refine ⟨C2, w4, xv, f, _, a, b, CM.le_trans q1 s1, t2, t3, hy, ?_⟩
                  have hround : Frame.round L.b f ((ps.toList.zip vs).foldl (fun tmps (t, a) => tmps.setIfInBounds t a) tm) a b .normal = bf.atR { tmps := (ps.toList.zip vs).foldl (fun tmps (t, a) => tmps.setIfInBounds t a) tm, defers := [] } [.code a, .beginRound, .code b] := by
                    simp [Frame.round, Frame.atR, bf]
                  rw [hround]
                  refine Steps.trans q3 (.head (stepR_beginRound rfl r1) ?_)
                  cases x with
                  | normal => exact Steps.trans s3 (.one (stepR_round_end rfl rfl t1))
                  | ret =>
                    obtain ⟨k1, s⟩ := s3
                    exact Steps.trans s (.one (stepR_round_ret rfl rfl t1))
                  | exit id =>
                    obtain ⟨k1, e, s⟩ := s3
                    exact Steps.trans s (.one (stepR_round_exit rfl rfl e t1))
                · cases h
          · cases h
      · cases h

/-! ### A closed run -/
theorem Rel.start (w : World) : Rel w ⟨fun _ _ => none, 0⟩ ⟨.e, 0⟩ w :=
  ⟨rfl, .refl _ _, fun _ _ _ h => (by cases h), fun _ _ _ h => (by cases h), fun _ _ _ _ _ _ h => (by cases h), fun _ _ h => absurd h (Nat.not_lt_zero _), fun _ _ _ _ _ h => absurd h (Nat.not_lt_zero _)⟩

theorem runA_calls {P : Program} (hm : P.follows .mixedOrders = true) {O : CallT} (hO : SoundCall P O) {m f : Nat} (h : runA P O m f = true) (w : World) :
    Calls P f #[] w fun e w' => e = .returned (.bool true) ∧ Below w.heap.size w w' := by
  unfold runA at h
  split at h
  · rename_i H' hr
    intro cs
    obtain ⟨C', w', v', fr, h1, h2, h3, h4, h5, h6⟩ := callA_sound hm hO m w _ _ w (.fn f) [] [] _ _ (Rel.start w) .nil hr cs
    cases h3
    exact ⟨.returned (.bool true), w', fr, ⟨rfl, h2.low⟩, h4, h5, h6⟩
  · cases h

end Go.Sv
