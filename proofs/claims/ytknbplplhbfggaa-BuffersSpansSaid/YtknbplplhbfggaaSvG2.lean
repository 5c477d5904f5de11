/- The evaluator's calls against the machine's; a closed run. -/
import Derived.Test.YtknbplplhbfggaaSvG1
import Derived.WalkKit
import Derived.ProofKit
import Derived.OpenShut
namespace Go.Sv
open Go.RowKit (Below)

/-! ### What a function hands back -/
theorem resF_ok {P : Program} {r : ResultVar} {n : Nat} {w0 : World} {C : CM} {E : Tr AV} {H : Heap} {w : World} {a : Act} (hR : Rel w0 C H w) (hE : ER n C E a.tmps) {v : AV} (h : (resF P r).run E H = some v) :
    ∃ x, (match r with
      | .tmp t => pure (a.tmps.getD t undef)
      | .cell c t => do loadVar t (← asAddr (a.tmps.getD c undef)) : Sem Value).run P w = .ok x w ∧ VR C v x := by
  have htmp : ∀ t, a.eval (.tmp t) = a.tmps.getD t undef := fun t => by
    show a.tmps.getD t undef = _
    rfl
  cases r with
  | tmp t =>
    simp only [resF] at h
    have := opd_spec hE _ _ h
    rw [htmp] at this
    exact ⟨_, by simp [Sem.run_pure], this⟩
  | cell c t =>
    unfold resF at h
    dsimp only at h ⊢
    split at h
    · rename_i n ha hs
      dsimp only at h
      split at h
      · rename_i o ver i ho
        split at h
        · rename_i l hl
          cases h
          have hv := opd_spec hE _ _ ho
          rw [htmp] at hv
          generalize a.tmps.getD c undef = px at hv
          cases hv with
          | ptr hL =>
            obtain ⟨vs, h1, h2, h3, h4, _⟩ := hR.read P hl hL
            exact ⟨.agg vs.toArray, by simp [asAddr, loadVar, run_isAgg ha, run_size hs, h1], .agg (by simpa using h2) h3⟩
        · cases h
      · cases h
    · rename_i n ha hs
      dsimp only at h
      split at h
      · rename_i o ver i ho
        split at h
        · rename_i cv hl
          cases h
          have hv := opd_spec hE _ _ ho
          rw [htmp] at hv
          generalize a.tmps.getD c undef = px at hv
          cases hv with
          | ptr hL =>
            obtain ⟨vs, h1, h2, h3, h4, h5, h6⟩ := hR.read P hl hL
            have h6' := h6 0 (by omega)
            match vs, h2 with
            | [u], .cons hu .nil =>
              simp only [Nat.add_zero, List.getElem?_cons_zero] at h6'
              exact ⟨u, by simp [asAddr, loadVar, run_isAgg ha, h6'], hu⟩
        · cases h
      · cases h
    · cases h

theorem ressF_ok {P : Program} {n : Nat} {w0 : World} {C : CM} {E : Tr AV} {H : Heap} {w : World} {a : Act} (hR : Rel w0 C H w) (hE : ER n C E a.tmps) : ∀ {l : List ResultVar} {vs : List AV}, (ressF P l).run E H = some vs →
    ∃ xs, (l.mapM fun
      | .tmp t => pure (a.tmps.getD t undef)
      | .cell c t => do loadVar t (← asAddr (a.tmps.getD c undef)) : Sem (List Value)).run P w = .ok xs w ∧ VRs C vs xs
  | [], vs, h => by
    cases h
    exact ⟨[], by simp [Sem.run_pure], .nil⟩
  | r :: l, vs, h => by
    simp only [ressF] at h
    split at h
    · cases h
    · rename_i v hv
      split at h
      · cases h
      · rename_i vs' hvs
        cases h
        obtain ⟨x, h1, h2⟩ := resF_ok hR hE hv
        obtain ⟨xs, h3, h4⟩ := ressF_ok hR hE hvs
        refine ⟨x :: xs, ?_, .cons h2 h4⟩
        rw [List.mapM_cons, Sem.run_bind]
        have h1' := h1
        cases r <;> (dsimp only at h1' ⊢; rw [h1']; simp only [Result.andThen_ok, Sem.run_bind, h3, Sem.run_pure])

theorem results_ok {P : Program} {fn : Func} {n : Nat} {w0 : World} {C : CM} {E : Tr AV} {H : Heap} {w : World} {a : Act} (hR : Rel w0 C H w) (hE : ER n C E a.tmps) {vs : List AV} (h : (ressF P fn.results.toList).run E H = some vs) :
    ∃ x, (results fn a.tmps).run P w = .ok x w ∧ VR C (match vs with
      | [v] => v
      | l => .tup l) x := by
  obtain ⟨xs, h1, h2⟩ := ressF_ok hR hE h
  have hm : (fn.results.mapM fun
      | .tmp t => pure (a.tmps.getD t undef)
      | .cell c t => do loadVar t (← asAddr (a.tmps.getD c undef)) : Sem (Array Value)).run P w = .ok xs.toArray w := by
    rw [Array.mapM_eq_mapM_toList]
    rw [map_eq_pure_bind, Sem.run_bind, h1]
    rfl
  refine ⟨if h : xs.toArray.size = 1 then xs.toArray[0] else .tuple xs.toArray, ?_, ?_⟩
  · unfold results
    rw [Sem.run_bind]
    exact (congrArg (fun r => Result.andThen r _) hm).trans rfl
  · cases h2 with
    | nil => exact .tup .nil
    | cons e es =>
      cases es with
      | nil => exact e
      | cons e' es' =>
        simp only [List.size_toArray, List.length_cons]
        rw [dif_neg (by omega)]
        exact .tup (.cons e (.cons e' es'))

/-! ### The marks at a return -/
theorem step_mark {P : Program} {fr : Frame} {cs : List Frame} {w : World} {blk : Nat} {ds : List Deferred} (hm : fr.mode = .returning) (hd : fr.defers = { target := .collected blk, args := #[] } :: ds) (hw : w.heap[blk]? = some (.deferred (some []))) :
    step P (lone fr cs w) = .next (lone { fr with defers := ds } cs (w.putObj blk (.deferred none))) :=
  step_lone_go (by simp [stepG, unwind, hm, hd, Sem.runT_eq, run_takeDeferred hw, GStep.bare_after])

theorem marks_ok {P : Program} {w0 : World} {C : CM} : ∀ {D : List Nat} {ds : List Deferred} {H H' : Heap} {w : World} {fr : Frame} (cs : List Frame), DR C D ds → takeDefs D H = some H' → Rel w0 C H w → fr.mode = .returning → fr.defers = ds →
    ∃ w', Rel w0 C H' w' ∧ Steps P (lone fr cs w) (lone { fr with defers := [] } cs w')
  | _, _, H, H', w, fr, cs, .nil, h, hR, hm, hd => by
    cases h
    refine ⟨w, hR, ?_⟩
    have : fr = { fr with defers := [] } := by cases fr; cases hd; rfl
    rw [← this]
    exact .refl _ _
  | _, _, H, H', w, fr, cs, .cons (d := d) (L := L) (r := r) hL hs, h, hR, hm, hd => by
    simp only [takeDefs] at h
    split at h
    · rename_i hg
      obtain ⟨hB, hw⟩ := hR.obj _ _ (hR.fresh _ _ _ hL) hg L hL
      have hR' : Rel w0 C (H.put d (.defd false)) (w.putObj L.b (.deferred none)) := hR.putBlock hL hB (fun _ _ _ _ e => by cases e) (fun hnew L' hL' => by
        rw [hL] at hL'; cases hL'
        exact ⟨hB, hnew⟩)
      obtain ⟨w', h1, h2⟩ := marks_ok (fr := { fr with defers := r }) cs hs h hR' hm rfl
      exact ⟨w', h1, .head (step_mark hm hd hw) h2⟩
    · cases h

/-! ### Temporaries at the start -/
theorem ER.start {C : CM} {args : List AV} {vs : List Value} (hv : VRs C args vs) {n : Nat} (hn : n ≤ lim) (hl : args.length ≤ n) : ER n C (ofListFrom args 0 .e) (vs.toArray ++ Array.replicate (n - vs.toArray.size) undef) := by
  have hlen := hv.length
  refine ⟨by simp; omega, hn, fun t ht => ?_⟩
  rw [get_ofList args 0 .e t, getP_e]
  rw [Array.getD_eq_getD_getElem?]
  by_cases h : t < args.length
  · rw [if_pos ⟨Nat.zero_le _, by omega⟩]
    obtain ⟨a, v, q1, q2, q3⟩ := hv.get' h
    rw [Nat.sub_zero, q1]
    rw [Array.getElem?_append_left (by simp; omega)]
    simp only [List.getElem?_toArray, q2, Option.getD_some]
    exact q3
  · rw [if_neg (by omega)]
    show _ = undef
    rw [Array.getElem?_append_right (by simp; omega), Array.getElem?_replicate]
    split <;> rfl

theorem setPs_ok {C : CM} : ∀ (ps : List Tmp) (args : List AV) (vs : List Value) {n : Nat} {E E' : Tr AV} {tm : Array Value}, setPs ps args n E = some E' → VRs C args vs → ER n C E tm →
    ps.length = vs.length ∧ ER n C E' ((ps.zip vs).foldl (fun tmps (t, a) => tmps.setIfInBounds t a) tm) := by
  intro ps
  induction ps with
  | nil =>
    intro args vs n E E' tm h hv hE
    cases hv with
    | nil => cases h; exact ⟨rfl, hE⟩
    | cons e es => cases h
  | cons p ps ih =>
    intro args vs n E E' tm h hv hE
    cases hv with
    | nil => cases h
    | cons e es =>
      simp only [setPs] at h
      split at h
      · rename_i hp
        have hp' : p < n := Nat.le_of_ble_eq_true hp
        have hE1 := ER.put (a := { tmps := tm, defers := [] }) hE (d := some p) (fun t ht => by cases ht; exact hp') e
        obtain ⟨h1, h2⟩ := ih _ _ h es hE1
        exact ⟨by simp [h1], h2⟩
      · cases h

/-! ### Calls -/
theorem compFn_ok {P : Program} (hm : P.follows .mixedOrders = true) {k : CallT} (hk : SoundCall P k) {f m : Nat} {w0 : World} {C : CM} {H H' : Heap} {w : World} {args : List AV} {vs : List Value} {v : AV} (hR : Rel w0 C H w) (hv : VRs C args vs)
    (h : (compFn P f).run k m args H = .ok v H') : CallSteps P w0 C w (.fn f) vs v H' := by
  unfold compFn at h
  split at h
  · cases h
  · rename_i fn hf
    split at h
    · cases h
    · rename_i body hbd
      split at h
      · rename_i hlim
        dsimp only at h
        split at h
        · cases h
        · rename_i hlen
          have hlen' : args.length ≤ fn.ntmps := Nat.le_of_ble_eq_true hlen
          split at h
          · cases h
          · rename_i x E D H1 hrun
            intro cs
            let b : Frame := { (default : Frame) with fn := f, kind := .normal, roundOf := none }
            have henter : Frame.enter P f vs.toArray .normal = b.atR { tmps := vs.toArray ++ Array.replicate (fn.ntmps - vs.toArray.size) undef, defers := [] } [.code body] := by
              simp [Frame.enter, Frame.atR, hf, hbd, b]
            obtain ⟨C1, w1, a1, q1, q2, q3⟩ := compCode_ok hm f fn.ntmps body k hk m none w0 C (ofListFrom args 0 .e) [] H { tmps := vs.toArray ++ Array.replicate (fn.ntmps - vs.toArray.size) undef, defers := [] } w b x E D H1
              ⟨hR, ER.start hv hlim hlen', .nil⟩ rfl trivial hrun [] cs
            rw [← henter] at q3
            have key : ∀ todo, Steps P (lone (Frame.enter P f vs.toArray .normal) cs w) (lone { b.atR a1 todo with mode := .returning } cs w1) →
                (match takeDefs D H1 with
                  | none => RV.no
                  | some H2 => match (ressF P fn.results.toList).run E H2 with
                    | some [v] => .ok v H2
                    | some l => .ok (.tup l) H2
                    | none => .no) = .ok v H' →
                ∃ C' w' v' fr, C.le C' ∧ Rel w0 C' H' w' ∧ VR C' v v' ∧ Steps P (lone (Frame.enter P f vs.toArray .normal) cs w) (lone fr cs w') ∧ fr.fn = f ∧ fr.leaving P w' (.returned v') := by
              intro todo hs he
              split at he
              · cases he
              · rename_i H2 htd
                obtain ⟨w2, r1, r2⟩ := marks_ok (fr := { b.atR a1 todo with mode := .returning }) cs q2.defs htd q2.rel rfl rfl
                split at he
                · rename_i v1 hres
                  cases he
                  obtain ⟨xv, s1, s2⟩ := results_ok (fn := fn) r1 q2.env hres
                  exact ⟨C1, w2, xv, _, q1, r1, s2, Steps.trans hs r2, rfl, rfl, rfl, rfl, fn, hf, s1⟩
                · rename_i l hne hres
                  cases he
                  obtain ⟨xv, s1, s2⟩ := results_ok (fn := fn) r1 q2.env hres
                  refine ⟨C1, w2, xv, _, q1, r1, ?_, Steps.trans hs r2, rfl, rfl, rfl, rfl, fn, hf, s1⟩
                  rcases l with _ | ⟨u, _ | ⟨u2, l⟩⟩
                  · exact s2
                  · exact absurd rfl (hne u)
                  · exact s2
                · cases he
            cases x with
            | exit id => cases h
            | normal => exact key [] (Steps.trans q3 (.one (stepR_end rfl))) h
            | ret =>
              obtain ⟨k1, s⟩ := q3
              exact key (.code .ret :: k1) (Steps.trans s (.one (stepR_ret rfl))) h
      · cases h

theorem endRound_ok {P : Program} {l : Nat} {x : Ex} {H H' : Heap} {v : AV} (h : endRoundA l x H = .ok v H') {w0 : World} {C : CM} {w : World} (hR : Rel w0 C H w) {L : Loc} (hL : C l 0 = some L) :
    ∃ w' xv, (Instr.endRound L.b (match x with
      | .normal => none
      | .ret => some .ret
      | .exit id => some (.exit id))).run P w = .ok xv w' ∧ Rel w0 C H' w' ∧ VR C v xv := by
  unfold endRoundA at h
  split at h
  · rename_i st pend f n E ps a b d hg
    obtain ⟨hB, tm, Ld, hd, hw, hE⟩ := hR.obj _ _ (hR.fresh _ _ _ hL) hg L hL
    split at h
    · cases h
      refine ⟨_, _, run_endRound none hw, hR.putBlock hL hB (fun _ _ _ _ e => by cases e) (fun hnew L' hL' => ?_), .bool true⟩
      rw [hL] at hL'; cases hL'
      exact ⟨hB, tm, Ld, hd, hnew, hE⟩
    · cases h
      refine ⟨_, _, run_endRound (some .ret) hw, hR.putBlock hL hB (fun _ _ _ _ e => by cases e) (fun hnew L' hL' => ?_), .bool false⟩
      rw [hL] at hL'; cases hL'
      exact ⟨hB, tm, Ld, hd, hnew, hE⟩
    · rename_i id
      cases h
      refine ⟨_, _, run_endRound (some (.exit id)) hw, hR.putBlock hL hB (fun _ _ _ _ e => by cases e) (fun hnew L' hL' => ?_), .bool false⟩
      rw [hL] at hL'; cases hL'
      exact ⟨hB, tm, Ld, hd, hnew, hE⟩
  · cases h

theorem begin_ok {P : Program} {l : Nat} {H H' : Heap} (h : beginA l H = some H') {w0 : World} {C : CM} {w : World} (hR : Rel w0 C H w) {L : Loc} (hL : C l 0 = some L) :
    ∃ w', (Instr.beginRound L.b).run P w = .ok () w' ∧ Rel w0 C H' w' := by
  unfold beginA at h
  split at h
  · rename_i pend f n E ps a b d hg
    cases h
    obtain ⟨hB, tm, Ld, hd, hw, hE⟩ := hR.obj _ _ (hR.fresh _ _ _ hL) hg L hL
    refine ⟨_, run_beginRound hw rfl, hR.putBlock hL hB (fun _ _ _ _ e => by cases e) (fun hnew L' hL' => ?_)⟩
    rw [hL] at hL'; cases hL'
    exact ⟨hB, tm, Ld, hd, hnew, hE⟩
  · cases h

theorem callA_sound {P : Program} (hm : P.follows .mixedOrders = true) {O : CallT} (hO : SoundCall P O) : ∀ m, SoundCall P (callA P O m)
  | 0 => fun _ _ _ _ _ _ _ _ _ _ _ h => by cases h
  | m + 1 => by
    have ih := callA_sound hm hO m
    intro w0 C H w t args vs v H' hR hv h
    unfold callA at h
    cases t with
    | fn f =>
      dsimp only at h
      split at h
      · rename_i v1 H1 ho
        cases h
        exact hO _ _ _ _ _ _ _ _ _ hR hv ho
      · exact compFn_ok hm ih hR hv h
    | yield l =>
      dsimp only at h
      split at h
      · rename_i f n E ps a b d hg
        split at h
        · cases h
        · rename_i E1 hE1
          split at h
          · rename_i E2 H2 hra
            split at h
            · cases h
            · rename_i H2' hbe
              split at h
              · cases h
              · rename_i x E3 D H3 hrb
                split at h
                · intro L hL c cs
                  obtain ⟨hB, tm, Ld, hd, hw, hE⟩ := hR.obj _ _ (hR.fresh _ _ _ hL) hg L hL
                  obtain ⟨hlen, hER⟩ := setPs_ok _ _ _ hE1 hv hE
                  have hy := run_yield (P := P) (args := vs.toArray) hw (by simpa using hlen.symm)
                  dsimp only at hy
                  have hfold : ((ps.zip vs.toArray).foldl (fun tmps (t, a) => tmps.setIfInBounds t a) tm) = ((ps.toList.zip vs).foldl (fun tmps (t, a) => tmps.setIfInBounds t a) tm) := by
                    rw [← Array.foldl_toList, Array.toList_zip]
                  rw [hfold] at hy
                  let bf : Frame := { (default : Frame) with fn := f, kind := .normal, roundOf := some L.b }
                  have hro : RO C (some l) bf.roundOf := ⟨L, hL, rfl⟩
                  obtain ⟨C1, w1, a1, q1, q2, q3⟩ := compCode_ok hm f n a (callA P O m) ih m (some l) w0 C E1 [] H { tmps := (ps.toList.zip vs).foldl (fun tmps (t, a) => tmps.setIfInBounds t a) tm, defers := [] } w bf .normal E2 [] H2
                    ⟨hR, hER, .nil⟩ rfl hro hra [.beginRound, .code b] (c :: cs)
                  obtain ⟨w2, r1, r2⟩ := begin_ok (P := P) hbe q2.rel (q1.keep _ _ _ hL)
                  obtain ⟨C2, w3, a3, s1, s2, s3⟩ := compCode_ok hm f n b (callA P O m) ih m (some l) w0 C1 E2 [] H2' a1 w2 bf x E3 [] H3 ⟨r2, q2.env, q2.defs⟩ rfl (hro.mono q1) hrb [] (c :: cs)
                  obtain ⟨w4, xv, t1, t2, t3⟩ := endRound_ok (P := P) h s2.rel (s1.keep _ _ _ (q1.keep _ _ _ hL))
                  refine ⟨C2, w4, xv, f, _, a, b, CM.le_trans q1 s1, t2, t3, hy, ?_⟩
                  have hround : Frame.round L.b f ((ps.toList.zip vs).foldl (fun tmps (t, a) => tmps.setIfInBounds t a) tm) a b .normal = bf.atR { tmps := (ps.toList.zip vs).foldl (fun tmps (t, a) => tmps.setIfInBounds t a) tm, defers := [] } [.code a, .beginRound, .code b] := by
                    simp [Frame.round, Frame.atR, bf]
                  rw [hround]
                  refine Steps.trans q3 (.head (stepR_beginRound rfl r1) ?_)
                  cases x with
                  | normal => exact Steps.trans s3 (.one (stepR_round_end rfl rfl t1))
                  | ret =>
                    obtain ⟨k1, s⟩ := s3
                    exact Steps.trans s (.one (stepR_round_ret rfl rfl t1))
                  | exit id =>
                    obtain ⟨k1, e, s⟩ := s3
                    exact Steps.trans s (.one (stepR_round_exit rfl rfl e t1))
                · cases h
          · cases h
      · cases h

/-! ### A closed run -/
theorem Rel.start (w : World) : Rel w ⟨fun _ _ => none, 0⟩ ⟨.e, 0⟩ w :=
  ⟨rfl, .refl _ _, fun _ _ _ h => (by cases h), fun _ _ _ h => (by cases h), fun _ _ _ _ _ _ h => (by cases h), fun _ _ h => absurd h (Nat.not_lt_zero _), fun _ _ _ _ _ h => absurd h (Nat.not_lt_zero _)⟩

theorem runA_calls {P : Program} (hm : P.follows .mixedOrders = true) {O : CallT} (hO : SoundCall P O) {m f : Nat} (h : runA P O m f = true) (w : World) :
    Calls P f #[] w fun e w' => e = .returned (.bool true) ∧ Below w.heap.size w w' := by
  unfold runA at h
  split at h
  · rename_i H' hr
    intro cs
    obtain ⟨C', w', v', fr, h1, h2, h3, h4, h5, h6⟩ := callA_sound hm hO m w _ _ w (.fn f) [] [] _ _ (Rel.start w) .nil hr cs
    cases h3
    exact ⟨.returned (.bool true), w', fr, ⟨rfl, h2.low⟩, h4, h5, h6⟩
  · cases h

end Go.Sv
/- From a run to a statement: what a call that turns nothing of what was there owes behind its return. -/
namespace Go.Sv
open Go.RowKit Go.ChangeShapes Go.WideShapes Go.ChangeAt
variable {H : Type} {enc : TypeId × Value → H} {P : Program}

theorem post_below {f : Func} {s : ChangeSpec} {apart fresh handsOn again : Bool} {W W' : World} {args : Array Value} {v : Value} {ds gs : List (DataW H)} {before pa pv : List MemPlace}
    (hW : DataW.Whole enc P f.params.toList s.vars apart W args.toList ds gs before)
    (hres : ∀ (b : Nat) (sp : Nat → Bool) (hd : Bool), DataW.TrodAll enc P W' b sp hd f.resultTypes.toList (v.resultList f.resultTypes.size) (s.fn H (ds ++ gs)).results [])
    (hargs : ∀ sp : Nat → Bool, (∀ p ∈ before, sp p.block = true) → DataW.TrodAll enc P W' 0 sp true f.params.toList args.toList (s.fn H (ds ++ gs)).args pa)
    (hvars : ∀ sp : Nat → Bool, (∀ p ∈ before, sp p.block = true) → DataW.TrodVars enc P W' sp s.vars (s.fn H (ds ++ gs)).vars pv)
    (hps : before = pa ++ pv) (hb : Below W.heap.size W W')
    (hok : ∀ (j : Nat) (t : TypeId) (r : Value), f.resultTypes[j]? = some t → (v.resultList f.resultTypes.size)[j]? = some r → Value.okWide P W' .any 0 t r) :
    s.post enc P f apart fresh handsOn again W args v W' := by
  have hlt := hW.lt
  obtain ⟨_, _, _, _, _, hz, hn⟩ := id hW
  have hsp : ∀ p ∈ before, (fun b => decide (b < W.heap.size)) p.block = true := fun p hp => by simpa using hlt p hp
  refine ⟨ds, gs, before, [], pa, pv, hW, hres _ _ _, hargs _ hsp, hvars _ hsp, World.keptBut_mono (fun p hp => ⟨hp, .inr (List.mem_append.1 (hps ▸ hp))⟩) (hb.frame (· ∈ before)), fun _ => ?_⟩
  refine ⟨hok, _, _, ([] ++ pa) ++ pv, ⟨[] ++ pa, pv, trodAll_append (hargs _ (fun _ _ => rfl)) (hres _ _ _), hvars _ (fun _ _ => rfl), rfl, fun b off hp => ?_, fun ha => ?_⟩, fun p hp _ => by rw [hps]; simpa using hp⟩
  · have hp' : MemPlace.cell b off ∈ before := by rw [hps]; simpa using hp
    rw [hb.frozen (p := ⟨b, off, none⟩) (hlt _ hp')]
    exact hz b off hp'
  · have := hn ha
    rw [hps] at this
    simpa using this
end Go.Sv
/- More fuel does no harm. -/
namespace Go.Sv

def CallT.le (k k' : CallT) : Prop := ∀ t a H v H', k t a H = .ok v H' → k' t a H = .ok v H'

theorem compOper_mono {P : Program} {n : Nat} {ops : Array Oper} {o : Oper} {k k' : CallT} (hk : k.le k') {E E' : Tr AV} {H H' : Heap} (h : (compOper P n ops o).run k E H = .ok E' H') : (compOper P n ops o).run k' E H = .ok E' H' := by
  unfold compOper at h ⊢
  cases hp : putF n o.dst with
  | none => rw [hp] at h; cases h
  | some p =>
    rw [hp] at h
    dsimp only at h ⊢
    cases hg : (guardF ops o).run E with
    | false => rw [hg] at h; exact h
    | true =>
      rw [hg] at h
      dsimp only at h ⊢
      cases hr : (compOp P o.op).run E H with
      | no => rw [hr] at h; cases h
      | val v H2 => rw [hr] at h; exact h
      | call t args =>
        rw [hr] at h
        dsimp only at h ⊢
        cases hc : k t args H with
        | no => rw [hc] at h; cases h
        | ok v H2 => rw [hc] at h; rw [hk _ _ _ _ _ hc]; exact h
theorem OE_rec_ok' {r : OE} {f : Tr AV → Heap → OE} {E' : Tr AV} {H' : Heap} (h : (OE.rec .no f r : OE) = .ok E' H') : ∃ E1 H1, r = .ok E1 H1 ∧ f E1 H1 = .ok E' H' := by
  cases r with
  | no => cases h
  | ok E1 H1 => exact ⟨E1, H1, rfl, h⟩
theorem compOps_mono {P : Program} {n : Nat} {ops : Array Oper} {k k' : CallT} (hk : k.le k') : ∀ {l : List Oper} {E E' : Tr AV} {H H' : Heap}, (compOps P n ops l).run k E H = .ok E' H' → (compOps P n ops l).run k' E H = .ok E' H'
  | [], _, _, _, _, h => h
  | o :: l, E, E', H, H', h => by
    simp only [compOps] at h ⊢
    obtain ⟨E1, H1, h1, h2⟩ := OE_rec_ok' h
    rw [compOper_mono hk h1]
    exact compOps_mono hk h2
theorem drawGo_mono {P : Program} {n : Nat} {ops : Array Oper} {k k' : CallT} (hk : k.le k') : ∀ {l pend : List DOp} {E E' : Tr AV} {H H' : Heap}, (drawGo P n ops l pend).run k E H = .ok E' H' → (drawGo P n ops l pend).run k' E H = .ok E' H'
  | [], _, _, _, _, _, h => h
  | x :: l, pend, E, E', H, H', h => by
    simp only [drawGo] at h ⊢
    split at h
    · rename_i hc
      obtain ⟨E1, H1, h1, h2⟩ := OE_rec_ok' h
      dsimp only
      rw [compOper_mono hk h1]
      exact drawGo_mono hk h2
    · rename_i hc
      obtain ⟨E1, H1, h1, h2⟩ := OE_rec_ok' h
      dsimp only
      rw [compOper_mono hk h1]
      exact drawGo_mono hk h2
    · rename_i hc
      obtain ⟨E1, H1, h1, h2⟩ := OE_rec_ok' h
      obtain ⟨h3, h4⟩ := Bool_rec_ok h2
      dsimp only
      rw [compOper_mono hk h1]
      dsimp only
      rw [h3]
      exact drawGo_mono hk h4
    · rename_i hc
      obtain ⟨E1, H1, h1, h2⟩ := OE_rec_ok' h
      obtain ⟨h3, h4⟩ := Bool_rec_ok h2
      dsimp only
      rw [compOper_mono hk h1]
      dsimp only
      rw [h3]
      exact drawGo_mono hk h4
theorem compDraw_mono {P : Program} {n : Nat} {ops : Array Oper} {k k' : CallT} (hk : k.le k') {E E' : Tr AV} {H H' : Heap} (h : (compDraw P n ops).run k E H = .ok E' H') : (compDraw P n ops).run k' E H = .ok E' H' := by
  unfold compDraw at h ⊢
  dsimp only at h ⊢
  split at h
  · exact drawGo_mono hk h
  · cases h

theorem loopA_mono {f g : Tr AV → List Nat → Heap → Res} (hf : ∀ E D H x E' D' H', f E D H = .ok x E' D' H' → g E D H = .ok x E' D' H') : ∀ {m m' : Nat}, m ≤ m' → ∀ {E D H x E' D' H'}, loopA f m E D H = .ok x E' D' H' → loopA g m' E D H = .ok x E' D' H'
  | 0, _, _, _, _, _, _, _, _, _, h => by cases h
  | m + 1, 0, hm, _, _, _, _, _, _, _, _ => by omega
  | m + 1, m' + 1, hm, E, D, H, x, E', D', H', h => by
    simp only [loopA] at h ⊢
    split at h
    · cases h
    · rename_i y E1 D1 H1 h1
      rw [hf _ _ _ _ _ _ _ h1]
      dsimp only
      split at h
      · exact loopA_mono hf (by omega) h
      · exact h

theorem compCode_mono {P : Program} {f n : Nat} {k k' : CallT} (hk : k.le k') {m m' : Nat} (hm : m ≤ m') {ro : Option Nat} : ∀ (c : Code) {E : Tr AV} {D : List Nat} {H : Heap} {x : Ex} {E' : Tr AV} {D' : List Nat} {H' : Heap},
    (compCode P f n c).run k m ro E D H = .ok x E' D' H' → (compCode P f n c).run k' m' ro E D H = .ok x E' D' H' := by
  intro c
  induction c with
  | skip => intro E D H x E' D' H' h; exact h
  | region id ops draw =>
    intro E D H x E' D' H' h
    simp only [compCode] at h ⊢
    cases draw with
    | true =>
      dsimp only at h ⊢
      split at h
      · cases h
      · rename_i E1 H1 h1; rw [compDraw_mono hk h1]; exact h
    | false =>
      dsimp only at h ⊢
      split at h
      · cases h
      · rename_i E1 H1 h1; rw [compOps_mono hk h1]; exact h
  | seq a b iha ihb =>
    intro E D H x E' D' H' h
    simp only [compCode] at h ⊢
    cases hr : (compCode P f n a).run k m ro E D H with
    | no => rw [hr] at h; cases h
    | ok y E1 D1 H1 =>
      rw [hr] at h
      rw [iha hr]
      dsimp only at h ⊢
      cases y with
      | normal => exact ihb h
      | exit id => exact h
      | ret => exact h
  | cond c a b iha ihb =>
    intro E D H x E' D' H' h
    simp only [compCode] at h ⊢
    split at h
    · split at h
      · exact iha h
      · exact ihb h
    · cases h
  | block id c ih =>
    intro E D H x E' D' H' h
    simp only [compCode] at h ⊢
    split at h
    · cases h
    · rename_i y E1 D1 H1 h1; rw [ih h1]; exact h
  | loop c ih =>
    intro E D H x E' D' H' h
    simp only [compCode] at h ⊢
    exact loopA_mono (fun E D H x E' D' H' h => ih h) hm h
  | rangeFunc g ps a b _ _ =>
    intro E D H x E' D' H' h
    simp only [compCode] at h ⊢
    split at h
    · cases h
    · split at h
      · cases h
      · split at h
        · split at h
          · cases h
          · rename_i v H2 h1
            rw [hk _ _ _ _ _ h1]
            exact h
        · cases h
  | exit id => intro E D H x E' D' H' h; exact h
  | scope c ih => intro E D H x E' D' H' h; exact ih h
  | label l => intro E D H x E' D' H' h; exact h
  | ret => intro E D H x E' D' H' h; exact h
  | _ => intro E D H x E' D' H' h; cases h

theorem compFn_mono {P : Program} {f : Nat} {k k' : CallT} (hk : k.le k') {m m' : Nat} (hm : m ≤ m') {args : List AV} {H : Heap} {v : AV} {H' : Heap} (h : (compFn P f).run k m args H = .ok v H') : (compFn P f).run k' m' args H = .ok v H' := by
  unfold compFn at h ⊢
  cases hf : P.funcs[f]? with
  | none => rw [hf] at h; cases h
  | some fn =>
    rw [hf] at h
    dsimp only at h ⊢
    cases hb : fn.body with
    | none => rw [hb] at h; cases h
    | some body =>
      rw [hb] at h
      dsimp only at h ⊢
      by_cases hl : fn.ntmps ≤ lim
      · rw [if_pos hl] at h ⊢
        dsimp only at h ⊢
        cases ha : Nat.ble args.length fn.ntmps with
        | false => rw [ha] at h; cases h
        | true =>
          rw [ha] at h
          dsimp only at h ⊢
          cases hr : (compCode P f fn.ntmps body).run k m none (ofListFrom args 0 .e) [] H with
          | no => rw [hr] at h; cases h
          | ok x E D H1 => rw [hr] at h; rw [compCode_mono hk hm _ hr]; exact h
      · rw [if_neg hl] at h; cases h
theorem callA_mono {P : Program} {O : CallT} : ∀ {m m' : Nat}, m ≤ m' → CallT.le (callA P O m) (callA P O m')
  | 0, _, _ => fun t a H v H' h => by cases h
  | m + 1, 0, h => by omega
  | m + 1, m' + 1, hm => by
    have ih := callA_mono (P := P) (O := O) (show m ≤ m' by omega)
    intro t a H v H' h
    unfold callA at h ⊢
    cases t with
    | fn f =>
      dsimp only at h ⊢
      cases ho : O (.fn f) a H with
      | no => rw [ho] at h; exact compFn_mono ih (by omega) h
      | ok v1 H1 => rw [ho] at h; exact h
    | yield l =>
      dsimp only at h ⊢
      split at h
      · rename_i f n E ps a' b d hg
        cases hE : setPs ps.toList a n E with
        | none => rw [hE] at h; cases h
        | some E1 =>
          rw [hE] at h
          dsimp only at h ⊢
          split at h
          · rename_i E2 H2 h2
            rw [compCode_mono ih (by omega) _ h2]
            dsimp only
            cases hb : beginA l H2 with
            | none => rw [hb] at h; cases h
            | some H2' =>
              rw [hb] at h
              dsimp only at h ⊢
              cases h3 : (compCode P f n b).run (callA P O m) m (some l) E2 [] H2' with
              | no => rw [h3] at h; cases h
              | ok x E3 D H3 => rw [h3] at h; rw [compCode_mono ih (by omega) _ h3]; exact h
          · cases h
      · cases h
end Go.Sv
/- Operations with all that hangs on the program's types worked in: what they do to values. -/
namespace Go.Sv

/-! ### Temporaries as a function -/
abbrev Env := Nat → Option AV
noncomputable def upd (ρ : Env) (d : Nat) (a : AV) : Env := fun t => match Nat.beq t d with
  | true => some a
  | false => ρ t
noncomputable def updO (ρ : Env) (d : Option Nat) (a : AV) : Env := match d with
  | none => ρ
  | some d => upd ρ d a
def EnvR (E : Tr AV) (ρ : Env) : Prop := ∀ t, t ≤ lim → getP (pathOf t) E = ρ t
theorem EnvR.set {E : Tr AV} {ρ : Env} (h : EnvR E ρ) {d : Nat} (hd : d ≤ lim) (a : AV) : EnvR (setP a (pathOf d) E) (upd ρ d a) := fun t ht => by
  rw [get_set]
  unfold upd
  by_cases e : t = d
  · subst e; rw [if_pos rfl, Nat.beq_refl]
  · rw [if_neg e, h t ht]
    cases hb : Nat.beq t d with
    | true => exact absurd (Nat.eq_of_beq_eq_true hb) e
    | false => rfl
theorem EnvR.put {E : Tr AV} {ρ : Env} (h : EnvR E ρ) {d : Option Nat} (hd : ∀ t, d = some t → t ≤ lim) (a : AV) : EnvR (putE d a E) (updO ρ d a) := by
  cases d with
  | none => exact h
  | some d => exact h.set (hd d rfl) a

inductive Ox where
  | t (i : Nat)
  | c (a : AV)
noncomputable def Ox.ev (ρ : Env) : Ox → AV
  | .t i => (ρ i).getD undefA
  | .c a => a
noncomputable def resO : Operand → Option Ox
  | .tmp t => if t ≤ lim then some (.t t) else none
  | .const v => (absV v).map .c
  | .func f => some (.c (.fn (.func f) [] []))
  | .global _ => none
theorem resO_ok {x : Operand} {r : Ox} (h : resO x = some r) {E : Tr AV} {ρ : Env} (hE : EnvR E ρ) : (opd x).run E = some (r.ev ρ) := by
  cases x with
  | tmp t =>
    simp only [resO] at h
    split at h
    · rename_i ht
      cases h
      unfold opd
      dsimp only
      rw [Nat.ble_eq_true_of_le ht]
      dsimp only
      rw [hE t ht]
      simp only [Ox.ev]
      cases ρ t <;> rfl
    · cases h
  | const v =>
    simp only [resO] at h
    cases hv : absV v with
    | none => rw [hv] at h; cases h
    | some a => rw [hv] at h; cases h; unfold opd; dsimp only; rw [hv]; rfl
  | global g => cases h
  | func f => cases h; rfl
noncomputable def resOs : List Operand → Option (List Ox)
  | [] => some []
  | x :: l => match resO x with
    | none => none
    | some r => match resOs l with
      | none => none
      | some rs => some (r :: rs)
theorem resOs_ok : ∀ {l : List Operand} {rs : List Ox}, resOs l = some rs → ∀ {E : Tr AV} {ρ : Env}, EnvR E ρ → (opds l).run E = some (rs.map (·.ev ρ))
  | [], rs, h, E, ρ, hE => by cases h; rfl
  | x :: l, rs, h, E, ρ, hE => by
    simp only [resOs] at h
    cases hx : resO x with
    | none => rw [hx] at h; cases h
    | some r =>
      rw [hx] at h
      dsimp only at h
      cases hl : resOs l with
      | none => rw [hl] at h; cases h
      | some r2 =>
        rw [hl] at h
        cases h
        unfold opds
        dsimp only
        rw [resO_ok hx hE, resOs_ok hl hE]
        rfl
/-- An operand that may be absent. -/
noncomputable def resOpt : Option Operand → Option (Option Ox)
  | none => some none
  | some x => match resO x with
    | none => none
    | some r => some (some r)
noncomputable def optR (ρ : Env) : Option Ox → Option (Option Nat)
  | none => some none
  | some r => match r.ev ρ with
    | .int _ (.ofNat n) => some (some n)
    | _ => none
theorem resOpt_ok {x : Option Operand} {r : Option Ox} (h : resOpt x = some r) {E : Tr AV} {ρ : Env} (hE : EnvR E ρ) : (optF x).run E = optR ρ r := by
  cases x with
  | none => cases h; rfl
  | some x =>
    simp only [resOpt] at h
    cases hx : resO x with
    | none => rw [hx] at h; cases h
    | some q =>
      rw [hx] at h
      cases h
      unfold optF optR
      dsimp only
      rw [resO_ok hx hE]
      generalize q.ev ρ = a
      split
      · rename_i n e; cases e; rfl
      · rename_i e
        split
        · rename_i k n; exact absurd rfl (e k n)
        · rfl

/-! ### Operations -/
inductive ROp where
  | move (x : Ox)
  | pick (c a b : Ox)
  | alloc (l : List AV)
  | box (x : Ox)
  | build (cs : List AV) (ps : List (Nat × Nat × Ox))
  | buildSl (size len : Nat) (cs : List AV) (ps : List (Nat × Nat × Ox))
  | load1 (x : Ox)
  | loadN (n : Nat) (x : Ox)
  | store (n : Nat) (x y : Ox)
  | nilChk (x : Ox)
  | bin (op : BinOp) (g : Bool) (t : TypeId) (x y : Ox)
  | un (op : UnOp) (x : Ox)
  | cvInt (k : IntKind) (x : Ox)
  | cvStr (x : Ox)
  | cvSame (x : Ox)
  | cvBytes (x : Ox)
  | mkIface (t : TypeId) (x : Ox)
  | mkFunc (f : Fn) (first cap : List Ox)
  | mkMap0
  | mkMap1 (x : Ox)
  | mkSl (size : Nat) (z : List AV) (l c : Ox)
  | slStr (x : Ox) (lo hi : Option Ox)
  | slSl (size : Nat) (x : Ox) (lo hi mx : Option Ox)
  | slArr (n size : Nat) (x : Ox) (lo hi mx : Option Ox)
  | fieldAddr (off : Nat) (x : Ox)
  | field (g : Bool) (n off : Nat) (x : Ox)
  | ixAddr (size : Nat) (x i : Ox)
  | ixAddrArr (len size : Nat) (x i : Ox)
  | ixStr (x i : Ox)
  | ixArr (g : Bool) (len size : Nat) (x i : Ox)
  | lookup (d : TypeDesc) (z : AV) (ok : Bool) (x i : Ox)
  | mapUpd (d : TypeDesc) (m k v : Ox)
  | range (x : Ox)
  | next (x : Ox)
  | assert (z : AV) (ok : Bool) (t : TypeId) (x : Ox)
  | extract (i : Nat) (x : Ox)
  | lenStr (x : Ox)
  | lenSl (x : Ox)
  | lenMap (x : Ox)
  | lenArr (n : Nat) (x : Ox)
  | cap (x : Ox)
  | maxi (mx : Bool) (l : List Ox)
  | appZ (size : Nat) (z : List AV) (s x : Ox)
  | appG (size : Nat) (s x : Ox)
  | copy (size : Nat) (d x : Ox)
  | clear (size : Nat) (z : List AV) (x : Ox)
  | delete (d : TypeDesc) (m k : Ox)
  | callV (f : Ox) (args : List Ox)
  | invoke (r : Ox) (name : String) (args : List Ox)

/-- Cells with parts laid in. -/
noncomputable def fillR (ρ : Env) (cs : List AV) : List (Nat × Nat × Ox) → Option (List AV)
  | [] => some cs
  | (off, size, x) :: ps => match (x.ev ρ).cells with
    | none => none
    | some l => match Nat.beq l.length size with
      | true => match Nat.ble (Nat.add off size) cs.length with
        | true => fillR ρ (layL cs off l) ps
        | false => none
      | false => none

noncomputable def evR (P : Program) (ρ : Env) (H : Heap) : ROp → OR
  | .move x => .val (x.ev ρ) H
  | .pick c a b => match c.ev ρ with
    | .bool true => .val (a.ev ρ) H
    | .bool false => .val (b.ev ρ) H
    | _ => .no
  | .alloc l => newVarA H l
  | .box x => match (x.ev ρ).cells with
    | some l => newVarA H l
    | none => .no
  | .build cs ps => match fillR ρ cs ps with
    | some l => .val (.agg l) H
    | none => .no
  | .buildSl size len cs ps => match fillR ρ cs ps with
    | some l => match newObj H l with
      | some (o, H') => .val (.sl o 0 0 len size (some len)) H'
      | none => .no
    | none => .no
  | .load1 x => match x.ev ρ with
    | .ptr o v i => match readAt H o v i 1 with
      | some [c] => .val c H
      | _ => .no
    | _ => .no
  | .loadN n x => match x.ev ρ with
    | .ptr o v i => match readAt H o v i n with
      | some l => .val (.agg l) H
      | none => .no
    | _ => .no
  | .store n x y => match x.ev ρ with
    | .ptr o v i => match (y.ev ρ).cells with
      | some l => match Nat.beq l.length n with
        | true => match writeAt H o v i l with
          | some H' => .val undefA H'
          | none => .no
        | false => .no
      | none => .no
    | _ => .no
  | .nilChk x => nilCheckA H (x.ev ρ)
  | .bin op g t x y => ret1 H (binA P op g t (x.ev ρ) (y.ev ρ))
  | .un op x => ret1 H (unA op (x.ev ρ))
  | .cvInt k x => match x.ev ρ with
    | .int _ n => .val (.int k (wrapA k n)) H
    | _ => .no
  | .cvStr x => match x.ev ρ with
    | .nilSl => .val (.str 0 0) H
    | .sl o v i len 1 _ => match readAt H o v i len with
      | some l => match convF.bytesA l with
        | some n => .val (.str len n) H
        | none => .no
      | none => .no
    | _ => .no
  | .cvSame x => match x.ev ρ with
    | .str l n => .val (.str l n) H
    | _ => .no
  | .cvBytes x => match x.ev ρ with
    | .str len n => match newObj H ((unpackL len n).map fun (b : Nat) => AV.int .u8 (Int.ofNat b)) with
      | some (o, H') => .val (.sl o 0 0 len 1 none) H'
      | none => .no
    | _ => .no
  | .mkIface t x => .val (.iface t (x.ev ρ)) H
  | .mkFunc f first cap => .val (.fn f (first.map (·.ev ρ)) (cap.map (·.ev ρ))) H
  | .mkMap0 => pushMap H
  | .mkMap1 x => match x.ev ρ with
    | .int _ _ => pushMap H
    | _ => .no
  | .mkSl size z l c => match l.ev ρ, c.ev ρ with
    | .int .i64 (.ofNat l), .int .i64 (.ofNat c) => match Nat.ble l c with
      | true => match Nat.ble c 1048576 with
        | true => match newObj H (repeatL z c) with
          | some (o, H') => .val (.sl o 0 0 l size (some c)) H'
          | none => .no
        | false => .no
      | false => .no
    | _, _ => .no
  | .slStr x lo hi => match x.ev ρ, optR ρ lo, optR ρ hi with
    | .str len n, some lo, some hi =>
      let l := lo.getD 0
      let h := hi.getD len
      match Nat.ble l h with
      | true => match Nat.ble h len with
        | true => .val (.str (Nat.sub h l) (Nat.mod (Nat.div n (Nat.pow 256 l)) (Nat.pow 256 (Nat.sub h l)))) H
        | false => .no
      | false => .no
    | _, _, _ => .no
  | .slSl size x lo hi mx => match x.ev ρ, optR ρ lo, optR ρ hi, optR ρ mx with
    | .sl o v i len esz room, some lo, some hi, some mx => ret1 H (sliceSl size lo hi mx o v i len esz room)
    | .nilSl, some lo, some hi, some none => match Nat.beq (Nat.add (lo.getD 0) (hi.getD 0)) 0 with
      | true => .val .nilSl H
      | false => .no
    | .emp, some lo, some hi, some none => match Nat.beq (Nat.add (lo.getD 0) (hi.getD 0)) 0 with
      | true => .val .emp H
      | false => .no
    | _, _, _, _ => .no
  | .slArr n size x lo hi mx => match x.ev ρ, optR ρ lo, optR ρ hi, optR ρ mx with
    | .ptr o v i, some lo, some hi, some mx => match H.get o with
      | some (.cells _ clen ver false) => match Nat.beq v ver with
        | true => match Nat.ble (Nat.add i (Nat.mul n size)) clen with
          | true => ret1 H (sliceSl size lo hi mx o v i n size (some n))
          | false => .no
        | false => .no
      | _ => .no
    | _, _, _, _ => .no
  | .fieldAddr off x => match x.ev ρ with
    | .ptr o v i => .val (.ptr o v (Nat.add i off)) H
    | _ => .no
  | .field g n off x => match x.ev ρ with
    | .agg l => ret1 H (partA g n l off)
    | _ => .no
  | .ixAddr size x i => match x.ev ρ, i.ev ρ with
    | .sl o v i len esz _, .int _ (.ofNat n) => match Nat.blt n len with
      | true => match Nat.beq esz size with
        | true => .val (.ptr o v (Nat.add i (Nat.mul n esz))) H
        | false => .no
      | false => .no
    | _, _ => .no
  | .ixAddrArr len size x i => match x.ev ρ, i.ev ρ with
    | .ptr o v i, .int _ (.ofNat n) => match Nat.blt n len with
      | true => .val (.ptr o v (Nat.add i (Nat.mul n size))) H
      | false => .no
    | _, _ => .no
  | .ixStr x i => match x.ev ρ, i.ev ρ with
    | .str len n, .int _ (.ofNat i) => match Nat.blt i len with
      | true => .val (.int .u8 (Int.ofNat (Nat.mod (Nat.div n (Nat.pow 256 i)) 256))) H
      | false => .no
    | _, _ => .no
  | .ixArr g len size x i => match x.ev ρ, i.ev ρ with
    | .agg l, .int _ (.ofNat n) => match Nat.blt n len with
      | true => ret1 H (partA g size l (Nat.mul n size))
      | false => .no
    | _, _ => .no
  | .lookup d z ok x i => match mapOf H (x.ev ρ) with
    | none => .no
    | some es => match findA d (i.ev ρ) es with
      | some (some v) => .val (if ok then .tup [v, .bool true] else v) H
      | some none => .val (if ok then .tup [z, .bool false] else z) H
      | none => .no
  | .mapUpd d m k v => match m.ev ρ with
    | .map o => match H.get o with
      | some (.map es clock) => match setMapA d (k.ev ρ) (v.ev ρ) clock es with
        | some (es', true) => .val undefA (H.put o (.map es' (Nat.add clock 1)))
        | some (es', false) => .val undefA (H.put o (.map es' clock))
        | none => .no
      | _ => .no
    | _ => .no
  | .range x => match x.ev ρ with
    | .str len n => .val (.ptr H.next 0 0) (H.push (.iter len n 0))
    | _ => .no
  | .next x => match x.ev ρ with
    | .ptr o 0 0 => match H.get o with
      | some (.iter len n pos) => match Nat.blt pos len with
        | true => match Nat.blt (Nat.mod (Nat.div n (Nat.pow 256 pos)) 256) 128 with
          | true => .val (.tup [.bool true, .int .i64 (Int.ofNat pos), .int .i32 (Int.ofNat (Nat.mod (Nat.div n (Nat.pow 256 pos)) 256))]) (H.put o (.iter len n (Nat.add pos 1)))
          | false => .no
        | false => .val (.tup [.bool false]) H
      | _ => .no
    | _ => .no
  | .assert z ok t x => match x.ev ρ with
    | .nilIf => if ok then .val (.tup [z, .bool false]) H else .no
    | .iface t' v => match Nat.beq t' t with
      | true => .val (if ok then .tup [v, .bool true] else v) H
      | false => if ok then .val (.tup [z, .bool false]) H else .no
    | _ => .no
  | .extract i x => match x.ev ρ with
    | .tup l => ret1 H l[i]?
    | _ => .no
  | .lenStr x => match x.ev ρ with
    | .str l _ => .val (.int .i64 (Int.ofNat l)) H
    | _ => .no
  | .lenSl x => match x.ev ρ with
    | .sl _ _ _ len _ _ => .val (.int .i64 (Int.ofNat len)) H
    | .nilSl => .val (.int .i64 0) H
    | .emp => .val (.int .i64 0) H
    | _ => .no
  | .lenMap x => match x.ev ρ with
    | .nilMap => .val (.int .i64 0) H
    | .map o => match H.get o with
      | some (.map es _) => .val (.int .i64 (Int.ofNat es.length)) H
      | _ => .no
    | _ => .no
  | .lenArr n _ => .val (.int .i64 (Int.ofNat n)) H
  | .cap x => match x.ev ρ with
    | .nilSl => .val (.int .i64 0) H
    | .sl _ _ _ _ _ (some r) => .val (.int .i64 (Int.ofNat r)) H
    | _ => .no
  | .maxi mx l => match (l.map (fun (x : Ox) => x.ev ρ) : List AV) with
    | .int k n :: l => ret1 H (foldMax mx (.int k n) l)
    | _ => .no
  | .appZ size z s x => match x.ev ρ with
    | .int .i64 (.ofNat n) => match Nat.ble n 1048576 with
      | true => appendA H size (s.ev ρ) n (repeatL z n)
      | false => .no
    | _ => .no
  | .appG size s x => match takeA H size (x.ev ρ) with
    | some (n, l) => match Nat.ble n 1048576 with
      | true => appendA H size (s.ev ρ) n l
      | false => .no
    | none => .no
  | .copy size d x => match takeA H size (x.ev ρ) with
    | some (n, l) => match d.ev ρ with
      | .nilSl => .val (.int .i64 0) H
      | .emp => .val (.int .i64 0) H
      | .sl o v i len esz _ => match Nat.beq esz size with
        | true => match writeAt H o v i (l.take (Nat.mul (minN n len) size)) with
          | some H' => .val (.int .i64 (Int.ofNat (minN n len))) H'
          | none => .no
        | false => .no
      | _ => .no
    | none => .no
  | .clear size z x => match x.ev ρ with
    | .nilSl => .val undefA H
    | .emp => .val undefA H
    | .sl o v i len esz _ => match Nat.beq esz size with
      | true => match writeAt H o v i (repeatL z len) with
        | some H' => .val undefA H'
        | none => .no
      | false => .no
    | _ => .no
  | .delete d m k => match m.ev ρ with
    | .map o => match H.get o with
      | some (.map es clock) => match delMapA d (k.ev ρ) es with
        | some es' => .val undefA (H.put o (.map es' clock))
        | none => .no
      | _ => .no
    | _ => .no
  | .callV f args => callVal P H (f.ev ρ) (args.map (·.ev ρ))
  | .invoke r name args => match r.ev ρ with
    | .iface t v => match methodA P t name with
      | some f => match callable P f with
        | true => .call (.fn f) (v :: args.map (·.ev ρ))
        | false => .no
      | none => .no
    | _ => .no

/-! ### How the program's operations become these -/
noncomputable def resParts (place : Nat → Option (Nat × Nat)) : List (Nat × Operand) → Option (List (Nat × Nat × Ox))
  | [] => some []
  | (i, x) :: l => match place i with
    | none => none
    | some (o, s) => match resO x with
      | none => none
      | some r => match resParts place l with
        | none => none
        | some q => some ((o, s, r) :: q)

noncomputable def res1 (x : Operand) (f : Ox → ROp) : Option ROp := match resO x with
  | none => none
  | some r => some (f r)
noncomputable def res2 (x y : Operand) (f : Ox → Ox → ROp) : Option ROp := match resO x with
  | none => none
  | some r => match resO y with
    | none => none
    | some q => some (f r q)
noncomputable def resSlice (size : Nat) (f : Nat → Ox → Option Ox → Option Ox → Option Ox → ROp) (x : Operand) (lo hi mx : Option Operand) : Option ROp :=
  match resO x, resOpt lo, resOpt hi, resOpt mx with
  | some r, some a, some b, some c => some (f size r a b c)
  | _, _, _, _ => none

noncomputable def resCall (P : Program) (c : Call) : Option ROp :=
  match c.callee with
  | .builtin b => match b with
    | .len => match c.argTypes.toList, c.args.toList with
      | [t], [x] => match P.underlying t with
        | some .string => res1 x .lenStr
        | some (.slice _) => res1 x .lenSl
        | some (.map _ _) => res1 x .lenMap
        | some (.array n _) => res1 x (.lenArr n)
        | _ => none
      | _, _ => none
    | .cap => match c.argTypes.toList, c.args.toList with
      | [t], [x] => match P.underlying t with
        | some (.slice _) => res1 x .cap
        | _ => none
      | _, _ => none
    | .max => match resOs c.args.toList with
      | some l => some (.maxi true l)
      | none => none
    | .min => match resOs c.args.toList with
      | some l => some (.maxi false l)
      | none => none
    | .append => match c.argTypes.toList, c.args.toList with
      | [st, xt], [s, x] => match P.underlying st, P.underlying xt with
        | some (.slice elem), some d => match P.info? elem, zeroT P elem with
          | some i, some z => if 0 < i.size ∧ i.bytes ≤ 65536 then match d with
            | .int _ => res2 s x (.appZ i.size z)
            | .slice _ => res2 s x (.appG i.size)
            | .string => res2 s x (.appG i.size)
            | _ => none
            else none
          | _, _ => none
        | _, _ => none
      | _, _ => none
    | .copy => match c.argTypes.toList, c.args.toList with
      | [st, _], [d, x] => match P.underlying st with
        | some (.slice elem) => match sizeT P elem with
          | none => none
          | some size => if 0 < size then res2 d x (.copy size) else none
        | _ => none
      | _, _ => none
    | .clear => match c.argTypes.toList, c.args.toList with
      | [st], [x] => match P.underlying st with
        | some (.slice elem) => match sizeT P elem, zeroT P elem with
          | some size, some z => if 0 < size then res1 x (.clear size z) else none
          | _, _ => none
        | _ => none
      | _, _ => none
    | .delete => match c.argTypes.toList, c.args.toList with
      | [mt, _], [m, k] => match P.underlying mt with
        | some (.map key _) => match keyT P key with
          | some d => res2 m k (.delete d)
          | none => none
        | _ => none
      | _, _ => none
    | _ => none
  | .value f => match resO f, resOs c.args.toList with
    | some g, some l => some (.callV g l)
    | _, _ => none
  | .invoke r name => match resO r, resOs c.args.toList with
    | some g, some l => some (.invoke g name l)
    | _, _ => none

noncomputable def resOp (P : Program) (o : Op) : Option ROp :=
  match o with
  | .move x | .assign x => res1 x .move
  | .pick c a b => match resO c, resO a, resO b with
    | some c, some a, some b => some (.pick c a b)
    | _, _, _ => none
  | .alloc t => match zeroT P t with
    | some l => some (.alloc l)
    | none => none
  | .box _ x => res1 x .box
  | .build t parts => match zeroT P t with
    | none => none
    | some cs => match P.underlying t with
      | some (.struct fields) => match fieldsAt P fields.toList with
        | none => none
        | some pl => match resParts (pl[·]?) parts.toList with
          | none => none
          | some ps => some (.build cs ps)
      | some (.array _ elem) => match sizeT P elem with
        | none => none
        | some size => match resParts (fun i => some (i * size, size)) parts.toList with
          | none => none
          | some ps => some (.build cs ps)
      | _ => none
  | .buildSlice t len parts => match P.underlying t with
    | some (.slice elem) => match sizeT P elem with
      | none => none
      | some size => match zeroT P elem with
        | none => none
        | some z => if len * size ≤ 2 ^ 20 ∧ 0 < size then
            match resParts (fun i => some (i * size, size)) parts.toList with
            | none => none
            | some ps => some (.buildSl size len (repeatL z len) ps)
          else none
    | _ => none
  | .load t a => match aggT P t, sizeT P t with
    | some true, some n => res1 a (.loadN n)
    | some false, some _ => res1 a .load1
    | _, _ => none
  | .store t a x => match sizeT P t with
    | some n => res2 a x (.store n)
    | none => none
  | .nilCheck x => res1 x .nilChk
  | .binOp op t x y _ => res2 x y (.bin op (isConstO x || isConstO y) t)
  | .unOp op _ x => res1 x (.un op)
  | .convert s d x => match P.underlying s, P.underlying d with
    | some _, some (.int k) => res1 x (.cvInt k)
    | some (.slice e), some .string => match P.underlying e with
      | some (.int .u8) => res1 x .cvStr
      | _ => none
    | some _, some .string => res1 x .cvSame
    | some _, some (.slice e) => match P.underlying e, sizeT P e with
      | some (.int .u8), some 1 => res1 x .cvBytes
      | _, _ => none
    | _, _ => none
  | .makeInterface t x => match P.underlying t with
    | some (.interface _) => none
    | some _ => res1 x (.mkIface t)
    | none => none
  | .makeFunc f first cap => match f with
    | .yield _ => none
    | f => match resOs first.toList, resOs cap.toList with
      | some a, some b => some (.mkFunc f a b)
      | _, _ => none
  | .makeMap t r => match r with
    | none => some .mkMap0
    | some x => match P.underlying t with
      | some (.map _ _) => res1 x .mkMap1
      | _ => none
  | .makeSlice t l c => match P.underlying t with
    | some (.slice elem) => match P.info? elem with
      | none => none
      | some i => match zeroT P elem with
        | none => none
        | some z => if 0 < i.size ∧ i.bytes ≤ 2 ^ 16 then res2 l c (.mkSl i.size z) else none
    | _ => none
  | .slice t x lo hi mx => match P.underlying t with
    | some .string => match mx with
      | some _ => none
      | none => match resO x, resOpt lo, resOpt hi with
        | some r, some a, some b => some (.slStr r a b)
        | _, _, _ => none
    | some (.slice elem) => if mx.isSome && hi.isNone then none else match sizeT P elem with
      | none => none
      | some size => resSlice size .slSl x lo hi mx
    | some (.array n elem) => if mx.isSome && hi.isNone then none else match sizeT P elem with
      | none => none
      | some size => resSlice size (.slArr n) x lo hi mx
    | _ => none
  | .fieldAddr s x f => match P.underlying s with
    | some (.struct fields) => match fields[f]? with
      | none => none
      | some fd => match sizeT P fd.type with
        | none => none
        | some 0 => none
        | some _ => res1 x (.fieldAddr fd.offset)
    | _ => none
  | .field t x f => match P.underlying t with
    | some (.struct fields) => match fields[f]? with
      | none => none
      | some fd => match aggT P fd.type, sizeT P fd.type with
        | some g, some n => res1 x (.field g n fd.offset)
        | _, _ => none
    | _ => none
  | .indexAddr t x i => match P.underlying t with
    | some (.slice elem) => match sizeT P elem with
      | none => none
      | some size => res2 x i (.ixAddr size)
    | some (.array len elem) => match sizeT P elem with
      | none => none
      | some size => res2 x i (.ixAddrArr len size)
    | _ => none
  | .index t x i => match P.underlying t with
    | some .string => res2 x i .ixStr
    | some (.array len elem) => match aggT P elem, sizeT P elem with
      | some g, some size => res2 x i (.ixArr g len size)
      | _, _ => none
    | _ => none
  | .lookup t x i ok => match P.underlying t with
    | some (.map key elem) => match keyT P key, zeroV P elem with
      | some d, some z => res2 x i (.lookup d z ok)
      | _, _ => none
    | _ => none
  | .mapUpdate t m k x | .insert t m k x => match P.underlying t with
    | some (.map key _) => match keyT P key with
      | some d => match resO m, resO k, resO x with
        | some m, some k, some x => some (.mapUpd d m k x)
        | _, _, _ => none
      | none => none
    | _ => none
  | .range t x => match P.underlying t with
    | some .string => res1 x .range
    | _ => none
  | .next it s => if s then res1 it .next else none
  | .typeAssert x _ t ok => match P.underlying t with
    | some (.interface _) => none
    | some _ => match zeroV P t with
      | none => none
      | some z => res1 x (.assert z ok t)
    | none => none
  | .extract t i => res1 t (.extract i)
  | .call c => resCall P c
  | _ => none
end Go.Sv
namespace Go.Sv
/-! ### The two are one -/
section ok
variable {P : Program} {E : Tr AV} {ρ : Env}
theorem res1_ok {x : Operand} {f : Ox → ROp} {r : ROp} (h : res1 x f = some r) : ∃ q, resO x = some q ∧ r = f q := by
  unfold res1 at h
  cases hx : resO x with
  | none => rw [hx] at h; cases h
  | some q => rw [hx] at h; cases h; exact ⟨q, rfl, rfl⟩
theorem res2_ok {x y : Operand} {f : Ox → Ox → ROp} {r : ROp} (h : res2 x y f = some r) : ∃ q p, resO x = some q ∧ resO y = some p ∧ r = f q p := by
  unfold res2 at h
  cases hx : resO x with
  | none => rw [hx] at h; cases h
  | some q =>
    rw [hx] at h
    dsimp only at h
    cases hy : resO y with
    | none => rw [hy] at h; cases h
    | some p => rw [hy] at h; cases h; exact ⟨q, p, rfl, rfl, rfl⟩
theorem unary1_run (hE : EnvR E ρ) {x : Operand} {q : Ox} (hx : resO x = some q) (f : Heap → AV → OR) (H : Heap) : (unary1 x f).run E H = f H (q.ev ρ) := by
  show (Option.rec OR.no (fun a => f H a) ((opd x).run E) : OR) = _
  rw [resO_ok hx hE]
theorem binary2_run (hE : EnvR E ρ) {x y : Operand} {q p : Ox} (hx : resO x = some q) (hy : resO y = some p) (f : Heap → AV → AV → OR) (H : Heap) : (binary2 x y f).run E H = f H (q.ev ρ) (p.ev ρ) := by
  show (Option.rec OR.no (fun a => Option.rec OR.no (fun b => f H a b) ((opd y).run E)) ((opd x).run E) : OR) = _
  rw [resO_ok hx hE, resO_ok hy hE]

theorem fillA_run (hE : EnvR E ρ) {place : Nat → Option (Nat × Nat)} : ∀ {l : List (Nat × Operand)} {ps : List (Nat × Nat × Ox)} {cs : List AV}, resParts place l = some ps → ∃ qs, partsAt place l = some qs ∧ fillA cs qs E = fillR ρ cs ps
  | [], ps, cs, h => by cases h; exact ⟨[], rfl, rfl⟩
  | (i, x) :: l, ps, cs, h => by
    simp only [resParts] at h
    cases hp : place i with
    | none => rw [hp] at h; cases h
    | some os =>
      obtain ⟨o, s⟩ := os
      rw [hp] at h
      dsimp only at h
      cases hx : resO x with
      | none => rw [hx] at h; cases h
      | some r =>
        rw [hx] at h
        dsimp only at h
        cases hl : resParts place l with
        | none => rw [hl] at h; cases h
        | some q =>
          rw [hl] at h
          cases h
          obtain ⟨qs, h1, _⟩ := fillA_run hE (cs := cs) hl
          refine ⟨⟨o, s, opd x⟩ :: qs, by simp only [partsAt, hp, h1], ?_⟩
          simp only [fillA, fillR]
          rw [resO_ok hx hE]
          dsimp only
          cases (r.ev ρ).cells with
          | none => rfl
          | some c =>
            dsimp only
            cases Nat.beq c.length s with
            | false => rfl
            | true =>
              dsimp only
              cases Nat.ble (Nat.add o s) cs.length with
              | false => rfl
              | true =>
                dsimp only
                obtain ⟨qs', h1', h2'⟩ := fillA_run hE (cs := layL cs o c) hl
                rw [h1] at h1'
                cases h1'
                exact h2'

theorem resSlice_ok {size : Nat} {f : Nat → Ox → Option Ox → Option Ox → Option Ox → ROp} {x : Operand} {lo hi mx : Option Operand} {r : ROp} (h : resSlice size f x lo hi mx = some r) :
    ∃ q a b c, resO x = some q ∧ resOpt lo = some a ∧ resOpt hi = some b ∧ resOpt mx = some c ∧ r = f size q a b c := by
  unfold resSlice at h
  split at h
  · rename_i q a b c h1 h2 h3 h4
    cases h
    exact ⟨q, a, b, c, h1, h2, h3, h4, rfl⟩
  · cases h

theorem resCall_ok (hE : EnvR E ρ) {c : Call} {r : ROp} (h : resCall P c = some r) (H : Heap) : (callF P c).run E H = evR P ρ H r := by
  unfold resCall at h
  unfold callF
  split at h
  · rename_i b hb
    rw [hb]
    dsimp only
    split at h
    · split at h
      · rename_i t x ht hx
        rw [ht, hx]
        dsimp only
        unfold lenF
        split at h <;> first
          | (cases h; done)
          | (rename_i hu
             obtain ⟨q, h1, rfl⟩ := res1_ok h
             rw [hu]
             dsimp only
             rw [unary1_run hE h1]
             rfl)
      · cases h
    · split at h
      · rename_i t x ht hx
        rw [ht, hx]
        dsimp only
        unfold capF
        split at h
        · rename_i hu
          obtain ⟨q, h1, rfl⟩ := res1_ok h
          rw [hu]
          dsimp only
          rw [unary1_run hE h1]
          rfl
        · cases h
      · cases h
    · split at h
      · rename_i l hl
        cases h
        simp only [maxF, evR]
        rw [resOs_ok hl hE]
        generalize (l.map fun (x : Ox) => x.ev ρ) = vs
        rcases vs with _ | ⟨v, vs⟩
        · rfl
        · cases v <;> rfl
      · cases h
    · split at h
      · rename_i l hl
        cases h
        simp only [maxF, evR]
        rw [resOs_ok hl hE]
        generalize (l.map fun (x : Ox) => x.ev ρ) = vs
        rcases vs with _ | ⟨v, vs⟩
        · rfl
        · cases v <;> rfl
      · cases h
    · split at h
      · rename_i st xt s x ht hx
        unfold appendF
        rw [ht, hx]
        dsimp only
        split at h
        · rename_i elem d hu1 hu2
          rw [hu1, hu2]
          split at h
          · rename_i i z hi hz
            split at h
            · rename_i hc
              split at h
              · rename_i k
                obtain ⟨q, p, h1, h2, rfl⟩ := res2_ok h
                dsimp only
                unfold appendZ
                rw [hi, hz]
                dsimp only
                rw [if_pos hc, binary2_run hE h1 h2]
                rfl
              · obtain ⟨q, p, h1, h2, rfl⟩ := res2_ok h
                dsimp only
                unfold appendG
                rw [hi, hz]
                dsimp only
                rw [if_pos hc, binary2_run hE h1 h2]
                rfl
              · obtain ⟨q, p, h1, h2, rfl⟩ := res2_ok h
                dsimp only
                unfold appendG
                rw [hi, hz]
                dsimp only
                rw [if_pos hc, binary2_run hE h1 h2]
                rfl
              · cases h
            · cases h
          · cases h
        · cases h
      · cases h
    · split at h
      · rename_i st xt d x ht hx
        unfold copyF
        rw [ht, hx]
        dsimp only
        split at h
        · rename_i elem hu
          rw [hu]
          dsimp only
          split at h
          · cases h
          · rename_i size hs
            split at h
            · rename_i hpos
              obtain ⟨q, p, h1, h2, rfl⟩ := res2_ok h
              rw [hs]
              dsimp only
              rw [if_pos hpos, binary2_run hE h1 h2]
              rfl
            · cases h
        · cases h
      · cases h
    · split at h
      · rename_i st x ht hx
        unfold clearF
        rw [ht, hx]
        dsimp only
        split at h
        · rename_i elem hu
          rw [hu]
          dsimp only
          split at h
          · rename_i size z hs hz
            split at h
            · rename_i hpos
              obtain ⟨q, h1, rfl⟩ := res1_ok h
              rw [hs, hz]
              dsimp only
              rw [if_pos hpos, unary1_run hE h1]
              rfl
            · cases h
          · cases h
        · cases h
      · cases h
    · split at h
      · rename_i mt xt m k ht hx
        unfold deleteF
        rw [ht, hx]
        dsimp only
        split at h
        · rename_i key e hu
          rw [hu]
          dsimp only
          split at h
          · rename_i d hd
            obtain ⟨q, p, h1, h2, rfl⟩ := res2_ok h
            rw [hd]
            dsimp only
            rw [binary2_run hE h1 h2]
            rfl
          · cases h
        · cases h
      · cases h
    · cases h
  · rename_i f hf
    rw [hf]
    dsimp only
    split at h
    · rename_i g l hg hl
      cases h
      rw [resO_ok hg hE, resOs_ok hl hE]
      simp only [evR]
    · cases h
  · rename_i x name hx
    rw [hx]
    dsimp only
    split at h
    · rename_i g l hg hl
      cases h
      rw [resO_ok hg hE, resOs_ok hl hE]
      simp only [evR]
      cases g.ev ρ with
      | iface t v =>
        dsimp only
        cases methodA P t name with
        | none => rfl
        | some f =>
          dsimp only
          cases callable P f <;> rfl
      | _ => rfl
    · cases h
end ok
end Go.Sv
/- Operations with all that hangs on the program's types worked in are the evaluator's operations. -/
namespace Go.Sv
section ok
variable {P : Program} {E : Tr AV} {ρ : Env}
theorem resOp_ok (hE : EnvR E ρ) {o : Op} {r : ROp} (h : resOp P o = some r) (H : Heap) : (compOp P o).run E H = evR P ρ H r := by
  cases o with
  | move x =>
    obtain ⟨q, h1, rfl⟩ := res1_ok h
    show (unary1 x _).run E H = _
    rw [unary1_run hE h1]; rfl
  | assign x =>
    obtain ⟨q, h1, rfl⟩ := res1_ok h
    show (unary1 x _).run E H = _
    rw [unary1_run hE h1]; rfl
  | pick c a b =>
    simp only [resOp] at h
    split at h
    · rename_i c' a' b' h1 h2 h3
      cases h
      simp only [compOp]
      rw [resO_ok h1 hE, resO_ok h2 hE, resO_ok h3 hE]
      simp only [evR]
      generalize c'.ev ρ = v
      cases v with
      | bool t => cases t <;> rfl
      | _ => rfl
    · cases h
  | alloc t =>
    simp only [resOp] at h
    simp only [compOp]
    cases hz : zeroT P t with
    | none => rw [hz] at h; cases h
    | some l => rw [hz] at h; cases h; rfl
  | box t x =>
    obtain ⟨q, h1, rfl⟩ := res1_ok h
    show (unary1 x _).run E H = _
    rw [unary1_run hE h1]; rfl
  | build t parts =>
    simp only [resOp] at h
    simp only [compOp, buildF]
    cases hz : zeroT P t with
    | none => rw [hz] at h; cases h
    | some cs =>
      rw [hz] at h
      dsimp only at h ⊢
      split at h
      · rename_i fields hu
        rw [hu]
        dsimp only
        cases hf : fieldsAt P fields.toList with
        | none => rw [hf] at h; cases h
        | some pl =>
          rw [hf] at h
          dsimp only at h ⊢
          cases hp : resParts (pl[·]?) parts.toList with
          | none => rw [hp] at h; cases h
          | some ps =>
            rw [hp] at h
            cases h
            obtain ⟨qs, h1, h2⟩ := fillA_run hE (cs := cs) hp
            rw [h1]
            dsimp only
            rw [h2]
            rfl
      · rename_i n elem hu
        rw [hu]
        dsimp only
        cases hs : sizeT P elem with
        | none => rw [hs] at h; cases h
        | some size =>
          rw [hs] at h
          dsimp only at h ⊢
          cases hp : resParts (fun i => some (i * size, size)) parts.toList with
          | none => rw [hp] at h; cases h
          | some ps =>
            rw [hp] at h
            cases h
            obtain ⟨qs, h1, h2⟩ := fillA_run hE (cs := cs) hp
            rw [h1]
            dsimp only
            rw [h2]
            rfl
      · cases h
  | buildSlice t len parts =>
    simp only [resOp] at h
    simp only [compOp, buildSliceF]
    split at h
    · rename_i elem hu
      rw [hu]
      dsimp only
      cases hs : sizeT P elem with
      | none => rw [hs] at h; cases h
      | some size =>
        rw [hs] at h
        dsimp only at h ⊢
        cases hz : zeroT P elem with
        | none => rw [hz] at h; cases h
        | some z =>
          rw [hz] at h
          dsimp only at h ⊢
          split at h
          · rename_i hc
            rw [if_pos hc]
            cases hp : resParts (fun i => some (i * size, size)) parts.toList with
            | none => rw [hp] at h; cases h
            | some ps =>
              rw [hp] at h
              cases h
              obtain ⟨qs, h1, h2⟩ := fillA_run hE (cs := repeatL z len) hp
              rw [h1]
              dsimp only
              rw [h2]
              rfl
          · cases h
    · cases h
  | load t a =>
    simp only [resOp] at h
    simp only [compOp, loadF]
    split at h
    · rename_i n h1 h2
      obtain ⟨q, h3, rfl⟩ := res1_ok h
      rw [h1, h2]
      dsimp only
      rw [unary1_run hE h3]; rfl
    · rename_i n h1 h2
      obtain ⟨q, h3, rfl⟩ := res1_ok h
      rw [h1, h2]
      dsimp only
      rw [unary1_run hE h3]; rfl
    · cases h
  | store t a x =>
    simp only [resOp] at h
    simp only [compOp, storeF]
    cases hs : sizeT P t with
    | none => rw [hs] at h; cases h
    | some n =>
      rw [hs] at h
      obtain ⟨q, p, h1, h2, rfl⟩ := res2_ok h
      dsimp only
      rw [binary2_run hE h1 h2]; rfl
  | nilCheck x =>
    obtain ⟨q, h1, rfl⟩ := res1_ok h
    show (unary1 x _).run E H = _
    rw [unary1_run hE h1]; rfl
  | binOp op t x y yt =>
    obtain ⟨q, p, h1, h2, rfl⟩ := res2_ok h
    simp only [compOp]
    rw [binary2_run hE h1 h2]; rfl
  | unOp op t x =>
    obtain ⟨q, h1, rfl⟩ := res1_ok h
    show (unary1 x _).run E H = _
    rw [unary1_run hE h1]; rfl
  | convert s d x =>
    simp only [resOp] at h
    simp only [compOp]
    unfold convF
    split at h
    · rename_i d1 k h1 h2
      obtain ⟨q, h3, rfl⟩ := res1_ok h
      rw [h1, h2]
      dsimp only
      rw [unary1_run hE h3]; rfl
    · rename_i e h1 h2
      rw [h1, h2]
      dsimp only
      split at h
      · rename_i hu
        rw [hu]
        dsimp only
        obtain ⟨q, h3, rfl⟩ := res1_ok h
        rw [unary1_run hE h3]; rfl
      · cases h
    · rename_i d1 hne h1 h2
      obtain ⟨q, h3, rfl⟩ := res1_ok h
      rw [h1, h2]
      cases d1 with
      | slice e => exact absurd rfl (hne e)
      | _ => dsimp only; rw [unary1_run hE h3]; rfl
    · rename_i d1 e h1 h2
      rw [h1, h2]
      dsimp only
      split at h
      · rename_i k1 k2
        obtain ⟨q, h3, rfl⟩ := res1_ok h
        rw [k1, k2]
        exact (unary1_run hE h3 _ _).trans rfl
      · cases h
    · cases h
  | makeInterface t x =>
    simp only [resOp] at h
    simp only [compOp, mkIfaceF]
    cases hu : P.underlying t with
    | none => rw [hu] at h; cases h
    | some d =>
      rw [hu] at h
      cases d with
      | interface ms => cases h
      | _ => obtain ⟨q, h1, rfl⟩ := res1_ok h; dsimp only; rw [unary1_run hE h1]; rfl
  | makeFunc f first cap =>
    simp only [resOp] at h
    cases f with
    | yield l => cases h
    | _ =>
      dsimp only at h
      split at h
      · rename_i a b h1 h2
        cases h
        simp only [compOp, mkFuncF]
        rw [resOs_ok h1 hE, resOs_ok h2 hE]
        rfl
      · cases h
  | makeMap t r =>
    simp only [resOp] at h
    simp only [compOp, mkMapF]
    cases r with
    | none => cases h; rfl
    | some x =>
      dsimp only at h ⊢
      split at h
      · rename_i k e hu
        obtain ⟨q, h1, rfl⟩ := res1_ok h
        rw [hu]
        dsimp only
        rw [unary1_run hE h1]; rfl
      · cases h
  | makeSlice t l c =>
    simp only [resOp] at h
    simp only [compOp, mkSliceF]
    split at h
    · rename_i elem hu
      rw [hu]
      dsimp only
      cases hi : P.info? elem with
      | none => rw [hi] at h; cases h
      | some i =>
        rw [hi] at h
        dsimp only at h ⊢
        cases hz : zeroT P elem with
        | none => rw [hz] at h; cases h
        | some z =>
          rw [hz] at h
          dsimp only at h ⊢
          split at h
          · rename_i hc
            obtain ⟨q, p, h1, h2, rfl⟩ := res2_ok h
            rw [if_pos hc, binary2_run hE h1 h2]; rfl
          · cases h
    · cases h
  | slice t x lo hi mx =>
    simp only [resOp] at h
    simp only [compOp, sliceF]
    split at h
    · rename_i hu
      rw [hu]
      dsimp only
      cases mx with
      | some m => cases h
      | none =>
        dsimp only at h ⊢
        split at h
        · rename_i q a b h1 h2 h3
          cases h
          rw [resO_ok h1 hE, resOpt_ok h2 hE, resOpt_ok h3 hE]
          simp only [evR]
          cases q.ev ρ with
          | str len n =>
            cases optR ρ a with
            | none => rfl
            | some a' => cases optR ρ b <;> rfl
          | _ => rfl
        · cases h
    · rename_i elem hu
      rw [hu]
      dsimp only
      split at h
      · cases h
      · rename_i hc
        rw [if_neg hc]
        cases hs : sizeT P elem with
        | none => rw [hs] at h; cases h
        | some size =>
          rw [hs] at h
          obtain ⟨q, a, b, c, h1, h2, h3, h4, rfl⟩ := resSlice_ok h
          dsimp only
          rw [resO_ok h1 hE, resOpt_ok h2 hE, resOpt_ok h3 hE, resOpt_ok h4 hE]
          simp only [evR]
          generalize q.ev ρ = v
          generalize optR ρ a = a'
          generalize optR ρ b = b'
          generalize optR ρ c = c'
          cases v <;> cases a' <;> cases b' <;> cases c' <;> try rfl
          all_goals (rename_i z; cases z <;> rfl)
    · rename_i n elem hu
      rw [hu]
      dsimp only
      split at h
      · cases h
      · rename_i hc
        rw [if_neg hc]
        cases hs : sizeT P elem with
        | none => rw [hs] at h; cases h
        | some size =>
          rw [hs] at h
          obtain ⟨q, a, b, c, h1, h2, h3, h4, rfl⟩ := resSlice_ok h
          dsimp only
          rw [resO_ok h1 hE, resOpt_ok h2 hE, resOpt_ok h3 hE, resOpt_ok h4 hE]
          simp only [evR]
          generalize q.ev ρ = v
          generalize optR ρ a = a'
          generalize optR ρ b = b'
          generalize optR ρ c = c'
          cases v <;> cases a' <;> cases b' <;> cases c' <;> rfl
    · cases h
  | fieldAddr s x f =>
    simp only [resOp] at h
    simp only [compOp, fieldAddrF]
    split at h
    · rename_i fields hu
      rw [hu]
      dsimp only
      cases hf : fields[f]? with
      | none => rw [hf] at h; cases h
      | some fd =>
        rw [hf] at h
        dsimp only at h ⊢
        split at h
        · cases h
        · cases h
        · rename_i n hn hs
          obtain ⟨q, h1, rfl⟩ := res1_ok h
          rw [hs]
          cases n with
          | zero => exact absurd rfl hn
          | succ n => exact (unary1_run hE h1 _ _).trans rfl
    · cases h
  | field t x f =>
    simp only [resOp] at h
    simp only [compOp, fieldF]
    split at h
    · rename_i fields hu
      rw [hu]
      dsimp only
      cases hf : fields[f]? with
      | none => rw [hf] at h; cases h
      | some fd =>
        rw [hf] at h
        dsimp only at h ⊢
        split at h
        · rename_i g n h1 h2
          obtain ⟨q, h3, rfl⟩ := res1_ok h
          rw [h1, h2]
          dsimp only
          rw [unary1_run hE h3]; rfl
        · cases h
    · cases h
  | indexAddr t x i =>
    simp only [resOp] at h
    simp only [compOp, indexAddrF]
    split at h
    · rename_i elem hu
      rw [hu]
      dsimp only
      cases hs : sizeT P elem with
      | none => rw [hs] at h; cases h
      | some size =>
        rw [hs] at h
        obtain ⟨q, p, h1, h2, rfl⟩ := res2_ok h
        dsimp only
        rw [binary2_run hE h1 h2]; rfl
    · rename_i len elem hu
      rw [hu]
      dsimp only
      cases hs : sizeT P elem with
      | none => rw [hs] at h; cases h
      | some size =>
        rw [hs] at h
        obtain ⟨q, p, h1, h2, rfl⟩ := res2_ok h
        dsimp only
        rw [binary2_run hE h1 h2]; rfl
    · cases h
  | index t x i =>
    simp only [resOp] at h
    simp only [compOp, indexF]
    split at h
    · rename_i hu
      obtain ⟨q, p, h1, h2, rfl⟩ := res2_ok h
      rw [hu]
      dsimp only
      rw [binary2_run hE h1 h2]; rfl
    · rename_i len elem hu
      rw [hu]
      dsimp only
      split at h
      · rename_i g size hg hs
        obtain ⟨q, p, h1, h2, rfl⟩ := res2_ok h
        rw [hg, hs]
        dsimp only
        rw [binary2_run hE h1 h2]; rfl
      · cases h
    · cases h
  | lookup t x i ok =>
    simp only [resOp] at h
    simp only [compOp, lookupF]
    split at h
    · rename_i key elem hu
      rw [hu]
      dsimp only
      split at h
      · rename_i d z hd hz
        obtain ⟨q, p, h1, h2, rfl⟩ := res2_ok h
        rw [hd, hz]
        dsimp only
        rw [binary2_run hE h1 h2]; rfl
      · cases h
    · cases h
  | mapUpdate t m k x =>
    simp only [resOp] at h
    simp only [compOp, mapUpdateF]
    split at h
    · rename_i key elem hu
      rw [hu]
      dsimp only
      split at h
      · rename_i d hd
        rw [hd]
        dsimp only
        split at h
        · rename_i a b c h1 h2 h3
          cases h
          rw [resO_ok h1 hE, resO_ok h2 hE, resO_ok h3 hE]
          simp only [evR]
          cases a.ev ρ <;> rfl
        · cases h
      · cases h
    · cases h
  | insert t m k x =>
    simp only [resOp] at h
    simp only [compOp, mapUpdateF]
    split at h
    · rename_i key elem hu
      rw [hu]
      dsimp only
      split at h
      · rename_i d hd
        rw [hd]
        dsimp only
        split at h
        · rename_i a b c h1 h2 h3
          cases h
          rw [resO_ok h1 hE, resO_ok h2 hE, resO_ok h3 hE]
          simp only [evR]
          cases a.ev ρ <;> rfl
        · cases h
      · cases h
    · cases h
  | range t x =>
    simp only [resOp] at h
    simp only [compOp, rangeF]
    split at h
    · rename_i hu
      obtain ⟨q, h1, rfl⟩ := res1_ok h
      rw [hu]
      dsimp only
      rw [unary1_run hE h1]; rfl
    · cases h
  | next it s =>
    simp only [resOp] at h
    simp only [compOp, nextF]
    cases s with
    | false => cases h
    | true =>
      obtain ⟨q, h1, rfl⟩ := res1_ok h
      rw [if_pos rfl, unary1_run hE h1]; rfl
  | typeAssert x xt t ok =>
    simp only [resOp] at h
    simp only [compOp, assertF]
    cases hu : P.underlying t with
    | none => rw [hu] at h; cases h
    | some d =>
      rw [hu] at h
      cases d with
      | interface ms => cases h
      | _ =>
        dsimp only at h ⊢
        cases hz : zeroV P t with
        | none => rw [hz] at h; cases h
        | some z => rw [hz] at h; obtain ⟨q, h1, rfl⟩ := res1_ok h; dsimp only; rw [unary1_run hE h1]; rfl
  | extract t i =>
    obtain ⟨q, h1, rfl⟩ := res1_ok h
    show (unary1 t _).run E H = _
    rw [unary1_run hE h1]; rfl
  | call c => exact resCall_ok hE h H
  | _ => cases h
end ok
end Go.Sv
/- Functions without parameters whose closed run is known to be right: a call of one is taken as done. -/
namespace Go.Sv
open Go.RowKit (Below)

/-- A function that takes nothing and tells a bool. -/
noncomputable def livesF (P : Program) (f : Nat) : Bool := match P.funcs[f]? with
  | some fn => match fn.params.toList with
    | [] => match fn.resultTypes.toList with
      | [t] => match P.underlying t with
        | some .bool => true
        | _ => false
      | _ => false
    | _ :: _ => false
  | none => false
/-- From whatever world it is entered, it returns true, and nothing of what was there turns. -/
def LivesRight (P : Program) (f : Nat) : Prop :=
  ∀ (w : World) cs, ∃ w' fr, Below w.heap.size w w' ∧ Steps P (lone (Frame.enter P f #[] .normal) cs w) (lone fr cs w') ∧ fr.fn = f ∧ fr.leaving P w' (.returned (.bool true))
theorem runA_lives {P : Program} (hm : P.follows .mixedOrders = true) {m f : Nat} (h : runA P noO m f = true) : LivesRight P f := by
  intro w cs
  unfold runA at h
  split at h
  · rename_i H' hr
    obtain ⟨C', w', v', fr, h1, h2, h3, h4, h5, h6⟩ := callA_sound hm (noO_sound P) m w _ _ w (.fn f) [] [] _ _ (Rel.start w) .nil hr cs
    cases h3
    exact ⟨w', fr, h2.low, h4, h5, h6⟩
  · cases h
theorem Rel.below {w0 : World} {C : CM} {H : Heap} {w w' : World} (h : Rel w0 C H w) (hb : Below w.heap.size w w') : Rel w0 C H w' := by
  have hsz : w0.heap.size ≤ w.heap.size := h.low.size
  exact ⟨h.nx, h.low.trans (hb.mono hsz), h.fresh, fun o v L hL => Nat.lt_of_lt_of_le (h.lt o v L hL) hb.size, h.excl,
    fun o ob ho hg => (h.obj o ob ho hg).frame (CM.le_refl C) (fun _ _ hL => hL) (fun v L hL => hb.block _ (h.lt o v L hL)), h.top⟩

open Classical in
/-- What is taken as done. -/
noncomputable def OL (P : Program) : CallT := fun t args H => match t, args with
  | .fn f, [] => if livesF P f = true ∧ LivesRight P f then .ok (.bool true) H else .no
  | _, _ => .no
theorem OL_no {P : Program} {f : Nat} (h : livesF P f = false) (args : List AV) (H : Heap) : OL P (.fn f) args H = .no := by
  unfold OL
  split
  · rename_i g e
    cases e
    rw [if_neg (by rw [h]; simp)]
  · rfl
theorem OL_yes {P : Program} {f : Nat} (h : livesF P f = true) (h2 : LivesRight P f) (H : Heap) : OL P (.fn f) [] H = .ok (.bool true) H := by
  unfold OL
  exact if_pos ⟨h, h2⟩
theorem OL_sound (P : Program) : SoundCall P (OL P) := by
  intro w0 C H w t args vs v H' hR hV hc
  unfold OL at hc
  split at hc
  · rename_i f
    split at hc
    · rename_i hl
      cases hc
      cases hV
      intro cs
      obtain ⟨w', fr, h1, h2, h3, h4⟩ := hl.2 w cs
      exact ⟨C, w', .bool true, fr, CM.le_refl C, hR.below h1, .bool true, h2, h3, h4⟩
    · cases hc
  · cases hc
end Go.Sv
/- A logic over the evaluator: values (rows that nobody turns any more stand in them as they are), objects, what an operation does. The definitions alone. -/
namespace Go.Sv

/-! ### Values -/
inductive LV where
  | any
  | bool (b : Bool)
  | u (x : UInt64)
  | b (x : UInt8)
  | i (n : Int)
  | int (k : IntKind) (n : Int)
  | str (l : List UInt8)
  | nilPtr
  | ptr (p i : Nat)
  | dptr (p k i : Nat)
  | cptr (l : List LV) (i : Nat)
  | nilSl
  | dy (p k : Nat)
  | vw (p k lo len : Nat)
  | lst (l : List LV) (len esz : Nat)
  | nilMap
  | map (p : Nat)
  | nilFn
  | fn (f : Fn) (first cap : List LV)
  | nilIf
  | iface (t : TypeId) (v : LV)
  | agg (l : List LV)
  | tup (l : List LV)
  deriving Inhabited

abbrev LEnv := List (Nat × LV)
def lk0 : LEnv → Nat → LV
  | [], _ => .any
  | (d, v) :: l, t => if t = d then v else lk0 l t
/-! What no reckoning opens by itself. -/
theorem hide_ex {α : Type} (f : α) : ∃ g : α, g = f := ⟨f, rfl⟩
noncomputable def hide {α : Type} (f : α) : α := Classical.choose (hide_ex f)
theorem hide_eq {α : Type} (f : α) : hide f = f := Classical.choose_spec (hide_ex f)
noncomputable def lk : LEnv → Nat → LV := hide lk0
theorem lk_nil (t : Nat) : lk [] t = .any := by unfold lk; rw [hide_eq]; rfl
theorem lk_cons (d : Nat) (v : LV) (l : LEnv) (t : Nat) : lk ((d, v) :: l) t = if t = d then v else lk l t := by unfold lk; rw [hide_eq]; rfl

inductive LObj where
  | dead (st : Nat)
  | cells (l : List LV) (st : Nat)
  | dyn (l : List LV) (len esz ver st : Nat)
  | map (es : List (LV × LV × Nat)) (clock st : Nat)
  | iter (l : List UInt8) (pos : Nat)
  | loop (s : LoopState) (pend : Option Code) (f n : Nat) (ρ : LEnv) (ps : Array Tmp) (a b : Code) (d : Nat)
  | defd (op : Bool)
abbrev LHeap := List LObj

def LObj.live : LObj → Bool
  | .dead _ => false
  | _ => true
/-- Objects that are stamped whenever they are turned. -/
def LObj.stp : LObj → Bool
  | .cells _ _ => true
  | .dyn _ _ _ _ _ => true
  | .map _ _ _ => true
  | _ => false
def LObj.st : LObj → Nat
  | .cells _ st => st
  | .dyn _ _ _ _ st => st
  | .map _ _ st => st
  | .dead st => st
  | _ => 0

/-- The cells that a value fills. -/
def LV.cells : LV → Option (List LV)
  | .any => none
  | .agg cs => some cs
  | .tup _ => none
  | v => some [v]

mutual
noncomputable def toA : LV → AV
  | .bool b => .bool b
  | .u x => .int .u64 (Int.ofNat x.toNat)
  | .b x => .int .u8 (Int.ofNat x.toNat)
  | .i n => .int .i64 n
  | .int k n => .int k n
  | .str l => .str l.length (packL l)
  | .nilPtr => .nilPtr
  | .nilSl => .nilSl
  | .nilMap => .nilMap
  | .nilFn => .nilFn
  | .fn f _ _ => .fn f [] []
  | .nilIf => .nilIf
  | .agg l => .agg (toAs l)
  | .tup l => .tup (toAs l)
  | _ => .tup []
noncomputable def toAs : List LV → List AV
  | [] => []
  | v :: l => toA v :: toAs l
end
/-- Values that stand in code. -/
def LV.scal : LV → Bool
  | .bool _ | .u _ | .b _ | .i _ | .int _ _ | .str _ | .nilPtr | .nilSl | .nilMap | .nilFn | .nilIf => true
  | _ => false
def LV.cst : LV → Bool
  | .fn (.func _) [] [] => true
  | .agg l => l.all LV.scal
  | .tup [] => true
  | v => v.scal

/-! ### What stands for what -/
/-- Of each object its version and its handle; the objects that nobody turns any more; the evaluator's heap. -/
structure Cx where
  hd : List (Nat × AV)
  Fz : Nat → Prop
  H : Heap

def slish : AV → Bool
  | .nilSl => true
  | .emp => true
  | .sl _ _ _ _ _ _ => true
  | _ => false
/-- A view from the front on has its row's room, or no more than there is. -/
def tied (lo : Nat) (h a : AV) : Prop := lo = 0 → match a with
  | .sl _ _ _ _ _ room' => match h with
    | .sl _ _ _ len _ room => room' = room ∨ ∃ r, room' = some r ∧ r ≤ len
    | _ => True
  | _ => True
mutual
inductive AR (c : Cx) : LV → AV → Prop where
  | any (a : AV) : AR c .any a
  | bool (b : Bool) : AR c (.bool b) (.bool b)
  | u (x : UInt64) : AR c (.u x) (.int .u64 (Int.ofNat x.toNat))
  | b (x : UInt8) : AR c (.b x) (.int .u8 (Int.ofNat x.toNat))
  | i (n : Int) : AR c (.i n) (.int .i64 n)
  | int (k : IntKind) (n : Int) : AR c (.int k n) (.int k n)
  | str (l : List UInt8) : AR c (.str l) (.str l.length (packL l))
  | nilPtr : AR c .nilPtr .nilPtr
  | ptr {p i o : Nat} (h : c.hd[p]? = some (0, .ptr o 0 0)) : AR c (.ptr p i) (.ptr o 0 i)
  | dptr {p k i k' o v j : Nat} {h : AV} (hp : c.hd[p]? = some (k', h)) (hk : k ≤ k') (ha : k = k' → j = i ∧ ∃ len esz room, h = .sl o v 0 len esz room) : AR c (.dptr p k i) (.ptr o v j)
  | cptr {l : List LV} {i o v j : Nat} {l' : List AV} (hf : c.Fz o) (hr : readAt c.H o v j l.length = some l') (hl : ARs c l l') : AR c (.cptr l i) (.ptr o v (j + i))
  | nilSl : AR c .nilSl .nilSl
  | dy {p k k' : Nat} {h a : AV} (hp : c.hd[p]? = some (k', h)) (hk : k ≤ k') (ha : k = k' → a = h) (hs : slish a = true) : AR c (.dy p k) a
  | vw {p k lo len k' : Nat} {h a : AV} (hp : c.hd[p]? = some (k', h)) (hk : k ≤ k') (ha : k = k' → (len = 0 ∧ (a = .nilSl ∨ (a = .emp ∧ lo ≠ 0))) ∨ ∃ o v len' esz room room', h = .sl o v 0 len' esz room ∧ a = .sl o v (lo * esz) len esz room' ∧ ∀ r, room' = some r → len ≤ r) (hs : slish a = true) (hz : k = k' → tied lo h a) : AR c (.vw p k lo len) a
  | lst {l : List LV} {len esz o v i : Nat} {room : Option Nat} {l' : List AV} (hf : c.Fz o) (hrm : ∀ r, room = some r → len ≤ r) (hlen : l.length = len * esz) (hr : readAt c.H o v i (len * esz) = some l') (hl : ARs c l l') : AR c (.lst l len esz) (.sl o v i len esz room)
  | lstNil {esz : Nat} : AR c (.lst [] 0 esz) .nilSl
  | lstEmp {esz : Nat} : AR c (.lst [] 0 esz) .emp
  | nilMap : AR c .nilMap .nilMap
  | map {p o : Nat} (h : c.hd[p]? = some (0, .map o)) : AR c (.map p) (.map o)
  | nilFn : AR c .nilFn .nilFn
  | fn {f : Nat} {l r : List LV} {l' r' : List AV} (hl : ARs c l l') (hr : ARs c r r') : AR c (.fn (.func f) l r) (.fn (.func f) l' r')
  | yield {p o : Nat} (h : c.hd[p]? = some (0, .ptr o 0 0)) : AR c (.fn (.yield p) [] []) (.fn (.yield o) [] [])
  | nilIf : AR c .nilIf .nilIf
  | iface {t : TypeId} {v : LV} {a : AV} (h : AR c v a) : AR c (.iface t v) (.iface t a)
  | agg {l : List LV} {l' : List AV} (h : ARs c l l') : AR c (.agg l) (.agg l')
  | tup {l : List LV} {l' : List AV} (h : ARs c l l') : AR c (.tup l) (.tup l')
inductive ARs (c : Cx) : List LV → List AV → Prop where
  | nil : ARs c [] []
  | cons {v : LV} {a : AV} {l : List LV} {r : List AV} (h : AR c v a) (hs : ARs c l r) : ARs c (v :: l) (a :: r)
end

inductive MRs (c : Cx) : List (LV × LV × Nat) → List (AV × AV × Nat) → Prop where
  | nil : MRs c [] []
  | cons {k v : LV} {a b : AV} {n : Nat} {l : List (LV × LV × Nat)} {r : List (AV × AV × Nat)} (hk : AR c k a) (hv : AR c v b) (h : MRs c l r) : MRs c ((k, v, n) :: l) ((a, b, n) :: r)

def EnvL (c : Cx) (ρ : LEnv) (E : Tr AV) : Prop := ∀ t, AR c (lk ρ t) ((getP (pathOf t) E).getD undefA)

def ObR (c : Cx) (k : Nat) (h : AV) : LObj → Prop
  | .dead _ => True
  | .cells l _ => k = 0 ∧ ∃ o t l', h = .ptr o 0 0 ∧ c.H.get o = some (.cells t l.length 0 false) ∧ getCells t 0 l.length = some l' ∧ ARs c l l'
  | .dyn l len esz ver _ => k = ver ∧ l.length = len * esz ∧ ((h = .nilSl ∧ len = 0) ∨ ∃ o v room t clen l', h = .sl o v 0 len esz room ∧ c.H.get o = some (.cells t clen v false) ∧ len * esz ≤ clen ∧
      getCells t 0 (len * esz) = some l' ∧ ARs c l l' ∧ (∀ r, room = some r → clen = r * esz ∧ len ≤ r) ∧ (room = none → clen = len * esz))
  | .map es ck _ => k = 0 ∧ ∃ o es', h = .map o ∧ c.H.get o = some (.map es' ck) ∧ MRs c es es'
  | .iter l pos => k = 0 ∧ ∃ o, h = .ptr o 0 0 ∧ c.H.get o = some (.iter l.length (packL l) pos)
  | .loop s pend f n ρ ps a b d => k = 0 ∧ ∃ o od E, h = .ptr o 0 0 ∧ c.hd[d]? = some (0, .ptr od 0 0) ∧ c.H.get o = some (.loop s pend f n E ps a b od) ∧ EnvL c ρ E
  | .defd op => k = 0 ∧ ∃ o, h = .ptr o 0 0 ∧ c.H.get o = some (.defd op)

/-- The evaluator's objects that the logic's objects are. -/
def Own (c : Cx) (G : LHeap) (o : Nat) : Prop := ∃ (p : Nat) (ob : LObj) (k : Nat) (h : AV), G[p]? = some ob ∧ ob.live = true ∧ c.hd[p]? = some (k, h) ∧ idOf h = some o

structure HSim (c : Cx) (G : LHeap) : Prop where
  len : c.hd.length = G.length
  fz : ∀ o, c.Fz o → o < c.H.next
  lt : ∀ o, Own c G o → o < c.H.next
  sep : ∀ o, Own c G o → ¬ c.Fz o
  obj : ∀ (p : Nat) (ob : LObj) (k : Nat) (h : AV), G[p]? = some ob → c.hd[p]? = some (k, h) → ObR c k h ob
  excl : ∀ (p q : Nat) (ob ob' : LObj) (k : Nat) (h : AV) (k' : Nat) (h' : AV) (o : Nat), G[p]? = some ob → G[q]? = some ob' → ob.live = true → ob'.live = true → c.hd[p]? = some (k, h) → c.hd[q]? = some (k', h') → idOf h = some o → idOf h' = some o → p = q

/-- Handles that stay. -/
def fixd : AV → Bool
  | .ptr _ _ _ => true
  | .map _ => true
  | _ => false
/-- What was known stays known. -/
structure CxLe (c c' : Cx) : Prop where
  hd : ∀ (p k : Nat) (h : AV), c.hd[p]? = some (k, h) → ∃ (k' : Nat) (h' : AV), c'.hd[p]? = some (k', h') ∧ k ≤ k' ∧ (k = k' → h = h') ∧ (fixd h = true → k = k')
  fz : ∀ o, c.Fz o → c'.Fz o ∧ c'.H.get o = c.H.get o

structure Step (c : Cx) (G : LHeap) (c' : Cx) (G' : LHeap) : Prop where
  le : CxLe c c'
  nx : c.H.next ≤ c'.H.next
  frame : ∀ o, o < c.H.next → ¬ Own c G o → c'.H.get o = c.H.get o
  new : ∀ o, Own c' G' o → Own c G o ∨ c.H.next ≤ o
  fznew : ∀ o, c'.Fz o → c.Fz o ∨ Own c G o ∨ c.H.next ≤ o
  mono : ∀ (p : Nat) (ob ob' : LObj), G[p]? = some ob → G'[p]? = some ob' → ob.st ≤ ob'.st
  st : ∀ (p : Nat) (ob ob' : LObj) (k : Nat) (h : AV) (o : Nat), G[p]? = some ob → G'[p]? = some ob' → c.hd[p]? = some (k, h) → idOf h = some o → ob.stp = true → ob.st = ob'.st → ob' = ob ∧ c'.H.get o = c.H.get o ∧ c'.hd[p]? = c.hd[p]?

/-! ### Operations -/
inductive Lx where
  | t (i : Nat)
  | c (v : LV)
noncomputable def Lx.ev (ρ : LEnv) : Lx → LV
  | .t i => lk ρ i
  | .c v => v
noncomputable def Lx.r : Lx → Ox
  | .t i => .t i
  | .c v => .c (toA v)
def Lx.ok : Lx → Bool
  | .t _ => true
  | .c v => v.cst

inductive LOp where
  | move (x : Lx)
  | pick (c a b : Lx)
  | alloc (l : List LV)
  | box (x : Lx)
  | build (cs : List LV) (ps : List (Nat × Nat × Lx))
  | buildSl (size len : Nat) (cs : List LV) (ps : List (Nat × Nat × Lx))
  | load1 (x : Lx)
  | loadN (n : Nat) (x : Lx)
  | store (n : Nat) (x y : Lx)
  | nilChk (x : Lx)
  | bin (op : BinOp) (g : Bool) (t : TypeId) (x y : Lx)
  | un (op : UnOp) (x : Lx)
  | cvInt (k : IntKind) (x : Lx)
  | cvStr (x : Lx)
  | cvSame (x : Lx)
  | cvBytes (x : Lx)
  | mkFunc (f : Nat) (first cap : List Lx)
  | mkSl (size : Nat) (z : List LV) (l c : Lx)
  | slStr (x : Lx) (lo hi : Option Lx)
  | slSl (size : Nat) (x : Lx) (lo hi : Option Lx)
  | slSl3 (size : Nat) (x : Lx) (lo hi : Option Lx) (mx : Lx)
  | fieldAddr (off : Nat) (x : Lx)
  | field (g : Bool) (n off : Nat) (x : Lx)
  | ixAddr (size : Nat) (x i : Lx)
  | ixStr (x i : Lx)
  | extract (i : Nat) (x : Lx)
  | lenStr (x : Lx)
  | lenSl (x : Lx)
  | maxi (mx : Bool) (x y : Lx)
  | max3 (mx : Bool) (x y z : Lx)
  | ixAddrArr (len size : Nat) (x i : Lx)
  | ixArr (g : Bool) (len size : Nat) (x i : Lx)
  | lenArr (n : Nat) (x : Lx)
  | appZ (size : Nat) (z : List LV) (s x : Lx)
  | appG (size : Nat) (s x : Lx)
  | copy (size : Nat) (d x : Lx)
  | clear (size : Nat) (z : List LV) (x : Lx)
  | mkMap0
  | mkMap1 (x : Lx)
  | lookup (d : TypeDesc) (z : LV) (ok : Bool) (x i : Lx)
  | mapUpd (d : TypeDesc) (m k v : Lx)
  | lenMap (x : Lx)
  | slArr (n size : Nat) (x : Lx) (lo hi : Option Lx)
  | callV (f : Lx) (args : List Lx)

noncomputable def rps : List (Nat × Nat × Lx) → List (Nat × Nat × Ox)
  | [] => []
  | (a, b, x) :: l => (a, b, x.r) :: rps l
noncomputable def rxs : List Lx → List Ox
  | [] => []
  | x :: l => x.r :: rxs l
noncomputable def LOp.r : LOp → ROp
  | .move x => .move x.r
  | .pick c a b => .pick c.r a.r b.r
  | .alloc l => .alloc (toAs l)
  | .box x => .box x.r
  | .build cs ps => .build (toAs cs) (rps ps)
  | .buildSl s n cs ps => .buildSl s n (toAs cs) (rps ps)
  | .load1 x => .load1 x.r
  | .loadN n x => .loadN n x.r
  | .store n x y => .store n x.r y.r
  | .nilChk x => .nilChk x.r
  | .bin op g t x y => .bin op g t x.r y.r
  | .un op x => .un op x.r
  | .cvInt k x => .cvInt k x.r
  | .cvStr x => .cvStr x.r
  | .cvSame x => .cvSame x.r
  | .cvBytes x => .cvBytes x.r
  | .mkFunc f a b => .mkFunc (.func f) (rxs a) (rxs b)
  | .mkSl s z l c => .mkSl s (toAs z) l.r c.r
  | .slStr x lo hi => .slStr x.r (lo.map Lx.r) (hi.map Lx.r)
  | .slSl s x lo hi => .slSl s x.r (lo.map Lx.r) (hi.map Lx.r) none
  | .slSl3 s x lo hi mx => .slSl s x.r (lo.map Lx.r) (hi.map Lx.r) (some mx.r)
  | .fieldAddr o x => .fieldAddr o x.r
  | .field g n o x => .field g n o x.r
  | .ixAddr s x i => .ixAddr s x.r i.r
  | .ixStr x i => .ixStr x.r i.r
  | .extract i x => .extract i x.r
  | .lenStr x => .lenStr x.r
  | .lenSl x => .lenSl x.r
  | .maxi m x y => .maxi m [x.r, y.r]
  | .max3 m x y z => .maxi m [x.r, y.r, z.r]
  | .ixAddrArr l s x i => .ixAddrArr l s x.r i.r
  | .ixArr g l s x i => .ixArr g l s x.r i.r
  | .lenArr n x => .lenArr n x.r
  | .appZ s z a x => .appZ s (toAs z) a.r x.r
  | .appG s a x => .appG s a.r x.r
  | .copy s d x => .copy s d.r x.r
  | .clear s z x => .clear s (toAs z) x.r
  | .mkMap0 => .mkMap0
  | .mkMap1 x => .mkMap1 x.r
  | .lookup d z ok x i => .lookup d (toA z) ok x.r i.r
  | .mapUpd d m k v => .mapUpd d m.r k.r v.r
  | .lenMap x => .lenMap x.r
  | .slArr n s x lo hi => .slArr n s x.r (lo.map Lx.r) (hi.map Lx.r) none
  | .callV f l => .callV f.r (rxs l)

/-! ### Numbers -/
def inI (n : Int) : Prop := -9223372036854775808 ≤ n ∧ n < 9223372036854775808
/-! Arithmetic that no reckoning opens by itself. -/
noncomputable def addU : UInt64 → UInt64 → UInt64 := hide fun a b => a + b
noncomputable def subU : UInt64 → UInt64 → UInt64 := hide fun a b => a - b
noncomputable def mulU : UInt64 → UInt64 → UInt64 := hide fun a b => a * b
noncomputable def divU : UInt64 → UInt64 → UInt64 := hide fun a b => a / b
noncomputable def modU : UInt64 → UInt64 → UInt64 := hide fun a b => a % b
noncomputable def andU : UInt64 → UInt64 → UInt64 := hide fun a b => a &&& b
noncomputable def orU : UInt64 → UInt64 → UInt64 := hide fun a b => a ||| b
noncomputable def xorU : UInt64 → UInt64 → UInt64 := hide fun a b => a ^^^ b
noncomputable def notU : UInt64 → UInt64 := hide fun a => ~~~a
noncomputable def shlU : UInt64 → Nat → UInt64 := hide fun a s => UInt64.ofNat (a.toNat * 2 ^ s)
noncomputable def shrU : UInt64 → Nat → UInt64 := hide fun a s => UInt64.ofNat (a.toNat / 2 ^ s)
noncomputable def addB : UInt8 → UInt8 → UInt8 := hide fun a b => a + b
noncomputable def subB : UInt8 → UInt8 → UInt8 := hide fun a b => a - b
noncomputable def andB : UInt8 → UInt8 → UInt8 := hide fun a b => a &&& b
noncomputable def orB : UInt8 → UInt8 → UInt8 := hide fun a b => a ||| b
noncomputable def iU : Int → UInt64 := hide fun a => UInt64.ofInt a
noncomputable def bU : UInt8 → UInt64 := hide fun a => UInt64.ofNat a.toNat
noncomputable def uB : UInt64 → UInt8 := hide fun a => UInt8.ofNat a.toNat
noncomputable def iB : Int → UInt8 := hide fun a => UInt8.ofInt a
theorem addU_eq (a b : UInt64) : addU a b = a + b := by unfold addU; rw [hide_eq]
theorem subU_eq (a b : UInt64) : subU a b = a - b := by unfold subU; rw [hide_eq]
theorem mulU_eq (a b : UInt64) : mulU a b = a * b := by unfold mulU; rw [hide_eq]
theorem divU_eq (a b : UInt64) : divU a b = a / b := by unfold divU; rw [hide_eq]
theorem modU_eq (a b : UInt64) : modU a b = a % b := by unfold modU; rw [hide_eq]
theorem andU_eq (a b : UInt64) : andU a b = a &&& b := by unfold andU; rw [hide_eq]
theorem orU_eq (a b : UInt64) : orU a b = a ||| b := by unfold orU; rw [hide_eq]
theorem xorU_eq (a b : UInt64) : xorU a b = a ^^^ b := by unfold xorU; rw [hide_eq]
theorem notU_eq (a : UInt64) : notU a = ~~~a := by unfold notU; rw [hide_eq]
theorem shlU_eq (a : UInt64) (s : Nat) : shlU a s = UInt64.ofNat (a.toNat * 2 ^ s) := by unfold shlU; rw [hide_eq]
theorem shrU_eq (a : UInt64) (s : Nat) : shrU a s = UInt64.ofNat (a.toNat / 2 ^ s) := by unfold shrU; rw [hide_eq]
theorem addB_eq (a b : UInt8) : addB a b = a + b := by unfold addB; rw [hide_eq]
theorem subB_eq (a b : UInt8) : subB a b = a - b := by unfold subB; rw [hide_eq]
theorem andB_eq (a b : UInt8) : andB a b = a &&& b := by unfold andB; rw [hide_eq]
theorem orB_eq (a b : UInt8) : orB a b = a ||| b := by unfold orB; rw [hide_eq]
theorem iU_eq (a : Int) : iU a = UInt64.ofInt a := by unfold iU; rw [hide_eq]
theorem bU_eq (a : UInt8) : bU a = UInt64.ofNat a.toNat := by unfold bU; rw [hide_eq]
theorem uB_eq (a : UInt64) : uB a = UInt8.ofNat a.toNat := by unfold uB; rw [hide_eq]
theorem iB_eq (a : Int) : iB a = UInt8.ofInt a := by unfold iB; rw [hide_eq]
noncomputable def uuL (op : BinOp) (a b : UInt64) (K : LV → Prop) : Prop := match op with
  | .add => K (.u (addU a b))
  | .sub => K (.u (subU a b))
  | .mul => K (.u (mulU a b))
  | .quo => b ≠ 0 ∧ K (.u (divU a b))
  | .rem => b ≠ 0 ∧ K (.u (modU a b))
  | .and => K (.u (andU a b))
  | .or => K (.u (orU a b))
  | .xor => K (.u (xorU a b))
  | .andNot => K (.u (andU a (notU b)))
  | .shl => K (.u (shlU a b.toNat))
  | .shr => K (.u (shrU a b.toNat))
  | .eql => K (.bool (decide (a = b)))
  | .neq => K (.bool (decide (a ≠ b)))
  | .lss => K (.bool (decide (a < b)))
  | .leq => K (.bool (decide (a ≤ b)))
  | .gtr => K (.bool (decide (b < a)))
  | .geq => K (.bool (decide (b ≤ a)))
noncomputable def bbL (op : BinOp) (a b : UInt8) (K : LV → Prop) : Prop := match op with
  | .add => K (.b (addB a b))
  | .sub => K (.b (subB a b))
  | .and => K (.b (andB a b))
  | .or => K (.b (orB a b))
  | .eql => K (.bool (decide (a = b)))
  | .neq => K (.bool (decide (a ≠ b)))
  | .lss => K (.bool (decide (a < b)))
  | .leq => K (.bool (decide (a ≤ b)))
  | .gtr => K (.bool (decide (b < a)))
  | .geq => K (.bool (decide (b ≤ a)))
  | _ => False
def iiL (op : BinOp) (a b : Int) (K : LV → Prop) : Prop := match op with
  | .add => inI (a + b) ∧ K (.i (a + b))
  | .sub => inI (a - b) ∧ K (.i (a - b))
  | .mul => inI (a * b) ∧ K (.i (a * b))
  | .quo => b ≠ 0 ∧ inI (a.tdiv b) ∧ K (.i (a.tdiv b))
  | .rem => b ≠ 0 ∧ K (.i (a.tmod b))
  | .shl => 0 ≤ a ∧ 0 ≤ b ∧ b ≤ 64 ∧ inI (a * 2 ^ b.toNat) ∧ K (.i (a * 2 ^ b.toNat))
  | .shr => 0 ≤ a ∧ 0 ≤ b ∧ b ≤ 64 ∧ K (.i (a / 2 ^ b.toNat))
  | .and => 0 ≤ a ∧ a < 9223372036854775808 ∧ 0 ≤ b ∧ b < 9223372036854775808 ∧ K (.i (a.toNat &&& b.toNat : Nat))
  | .or => 0 ≤ a ∧ a < 9223372036854775808 ∧ 0 ≤ b ∧ b < 9223372036854775808 ∧ K (.i (a.toNat ||| b.toNat : Nat))
  | .eql => K (.bool (decide (a = b)))
  | .neq => K (.bool (decide (a ≠ b)))
  | .lss => K (.bool (decide (a < b)))
  | .leq => K (.bool (decide (a ≤ b)))
  | .gtr => K (.bool (decide (b < a)))
  | .geq => K (.bool (decide (b ≤ a)))
  | _ => False
def kkL (op : BinOp) (a b : Int) (K : LV → Prop) : Prop := match op with
  | .eql => K (.bool (decide (a = b)))
  | .neq => K (.bool (decide (a ≠ b)))
  | .lss => K (.bool (decide (a < b)))
  | .leq => K (.bool (decide (a ≤ b)))
  | .gtr => K (.bool (decide (b < a)))
  | .geq => K (.bool (decide (b ≤ a)))
  | _ => False
def ssL (op : BinOp) (a b : List UInt8) (K : LV → Prop) : Prop := match op with
  | .add => a.length + b.length ≤ 1000000000 ∧ K (.str (a ++ b))
  | .eql => K (.bool (decide (a = b)))
  | .neq => K (.bool (decide (a ≠ b)))
  | _ => False
noncomputable def nilL (P : Program) (op : BinOp) (g : Bool) (t : TypeId) (a b : AV) (r : Bool) (K : LV → Prop) : Prop := match op with
  | .eql => eqA P g t a b = some r ∧ K (.bool r)
  | .neq => eqA P g t a b = some r ∧ K (.bool (!r))
  | _ => False
/-- What structs of numbers, bools and texts are compared by. -/
def scalEq : LV → LV → Option Bool
  | .bool a, .bool b => some (decide (a = b))
  | .u a, .u b => some (decide (a = b))
  | .b a, .b b => some (decide (a = b))
  | .i a, .i b => some (decide (a = b))
  | .str a, .str b => some (decide (a = b))
  | _, _ => none

/-- Structs of scalars are compared cell by cell. -/
noncomputable def aggL (P : Program) (op : BinOp) (g : Bool) (t : TypeId) (l r : List LV) (K : LV → Prop) : Prop := match op with
  | .eql => ∃ b, l.all LV.scal = true ∧ r.all LV.scal = true ∧ eqA P g t (.agg (toAs l)) (.agg (toAs r)) = some b ∧ K (.bool b)
  | .neq => ∃ b, l.all LV.scal = true ∧ r.all LV.scal = true ∧ eqA P g t (.agg (toAs l)) (.agg (toAs r)) = some b ∧ K (.bool (!b))
  | _ => False
/-- A row by value is none, or it is. -/
def lstN (op : BinOp) (len : Nat) (K : LV → Prop) : Prop := match op with
  | .eql => K (.bool false) ∧ (len = 0 → K (.bool true))
  | .neq => K (.bool true) ∧ (len = 0 → K (.bool false))
  | _ => False
noncomputable def binL (P : Program) (op : BinOp) (g : Bool) (t : TypeId) (x y : LV) (K : LV → Prop) : Prop := match x, y with
  | .u a, .u b => uuL op a b K
  | .i a, .i b => iiL op a b K
  | .b a, .b b => bbL op a b K
  | .bool a, .bool b => match op with
    | .eql => eqA P g t (.bool a) (.bool b) = some (a == b) ∧ K (.bool (a == b))
    | .neq => eqA P g t (.bool a) (.bool b) = some (a == b) ∧ K (.bool (!(a == b)))
    | _ => False
  | .u a, .i s => match op with
    | .shl => 0 ≤ s ∧ K (.u (shlU a s.toNat))
    | .shr => 0 ≤ s ∧ K (.u (shrU a s.toNat))
    | _ => False
  | .i a, .u s => match op with
    | .shl => 0 ≤ a ∧ s.toNat ≤ 64 ∧ inI (a * 2 ^ s.toNat) ∧ K (.i (a * 2 ^ s.toNat))
    | .shr => 0 ≤ a ∧ s.toNat ≤ 64 ∧ K (.i (a / 2 ^ s.toNat))
    | _ => False
  | .int k a, .int k' b => k = k' ∧ kkL op a b K
  | .str a, .str b => ssL op a b K
  | .nilPtr, .nilPtr => nilL P op g t .nilPtr .nilPtr true K
  | .ptr _ _, .nilPtr => nilL P op g t (.ptr 0 0 0) .nilPtr false K
  | .nilSl, .nilSl => nilL P op g t .nilSl .nilSl true K
  | .lst _ len _, .nilSl => eqA P g t .nilSl .nilSl = some true ∧ lstN op len K
  | .agg l, .agg r => aggL P op g t l r K
  | _, _ => False

noncomputable def unL (op : UnOp) (x : LV) (K : LV → Prop) : Prop := match op, x with
  | .not, .bool b => K (.bool (!b))
  | .neg, .u a => K (.u (subU 0 a))
  | .neg, .i a => inI (-a) ∧ K (.i (-a))
  | .xor, .u a => K (.u (notU a))
  | _, _ => False
/-- Round at 32 bits. -/
def w32 (n : Int) : Int := (n + 2147483648) % 4294967296 - 2147483648
noncomputable def cvL (k : IntKind) (x : LV) (K : LV → Prop) : Prop := match k, x with
  | .u64, .u a => K (.u a)
  | .u64, .i a => K (.u (iU a))
  | .u64, .b a => K (.u (bU a))
  | .i64, .u a => a.toNat < 9223372036854775808 ∧ K (.i a.toNat)
  | .i64, .i a => inI a ∧ K (.i a)
  | .i64, .b a => K (.i a.toNat)
  | .u8, .u a => K (.b (uB a))
  | .u8, .i a => K (.b (iB a))
  | .u8, .b a => K (.b a)
  | .u8, .int _ a => K (.b (iB a))
  | .i32, .i a => K (.int .i32 (w32 a))
  | .i64, .int _ a => inI a ∧ K (.i a)
  | _, _ => False

/-- Two ways. -/
def brL (t : Bool) (A B : Prop) : Prop := (t = true → A) ∧ (t = false → B)
def brV (v : LV) (A B : Prop) : Prop := match v with
  | .bool t => brL t A B
  | _ => False

/-! ### Objects -/
/-- What stands at a pointer, so many cells. -/
def readL (G : LHeap) (x : LV) (n : Nat) (K : List LV → Prop) : Prop := match x with
  | .ptr p i => match G[p]? with
    | some (.cells l _) => i + n ≤ l.length ∧ K ((l.drop i).take n)
    | _ => False
  | .dptr p k i => match G[p]? with
    | some (.dyn l _ _ ver _) => k = ver ∧ i + n ≤ l.length ∧ K ((l.drop i).take n)
    | _ => False
  | .cptr l i => i + n ≤ l.length ∧ K ((l.drop i).take n)
  | _ => False
/-- What stands at one place of a row. -/
def nthL (l : List LV) (i : Nat) (K : LV → Prop) : Prop := ∃ v, l[i]? = some v ∧ K v
/-- One cell at a pointer. -/
def read1 (G : LHeap) (x : LV) (K : LV → Prop) : Prop := match x with
  | .ptr p i => match G[p]? with
    | some (.cells l _) => nthL l i K
    | _ => False
  | .dptr p k i => match G[p]? with
    | some (.dyn l _ _ ver _) => k = ver ∧ nthL l i K
    | _ => False
  | .cptr l i => nthL l i K
  | _ => False
/-- Cells laid over cells. -/
def layLV (l : List LV) (i : Nat) (r : List LV) : List LV := l.take i ++ r ++ l.drop (i + r.length)
def writeL (G : LHeap) (x : LV) (r : List LV) (K : LHeap → Prop) : Prop := match x with
  | .ptr p i => match G[p]? with
    | some (.cells l st) => i + r.length ≤ l.length ∧ K (G.set p (.cells (layLV l i r) (st + 1)))
    | _ => False
  | .dptr p k i => match G[p]? with
    | some (.dyn l len esz ver st) => k = ver ∧ i + r.length ≤ l.length ∧ K (G.set p (.dyn (layLV l i r) len esz ver (st + 1)))
    | _ => False
  | _ => False
def repL (z : List LV) : Nat → List LV
  | 0 => []
  | n + 1 => z ++ repL z n
/-- A row's length and its cells. -/
def rowL (G : LHeap) (size : Nat) (x : LV) (K : Nat → List LV → Prop) : Prop := match x with
  | .nilSl => K 0 []
  | .dy p k => match G[p]? with
    | some (.dyn l len esz ver _) => k = ver ∧ esz = size ∧ K len l
    | _ => False
  | .vw p k lo len => match G[p]? with
    | some (.dyn l _ esz ver _) => k = ver ∧ esz = size ∧ lo * esz + len * esz ≤ l.length ∧ K len ((l.drop (lo * esz)).take (len * esz))
    | _ => False
  | .lst l len esz => esz = size ∧ K len l
  | .str l => size = 1 ∧ K l.length (l.map LV.b)
  | _ => False
/-- The bytes of a row. -/
def bytL (G : LHeap) (x : LV) (K : List LV → Prop) : Prop := match x with
  | .nilSl => K []
  | .dy p k => match G[p]? with
    | some (.dyn l _ esz ver _) => k = ver ∧ esz = 1 ∧ K l
    | _ => False
  | .lst l len esz => esz = 1 ∧ len ≠ 0 ∧ K l
  | _ => False
def lenL (G : LHeap) (x : LV) (K : Nat → Prop) : Prop := match x with
  | .nilSl => K 0
  | .dy p k => match G[p]? with
    | some (.dyn _ len _ ver _) => k = ver ∧ K len
    | _ => False
  | .vw p k _ len => match G[p]? with
    | some (.dyn _ _ _ ver _) => k = ver ∧ K len
    | _ => False
  | .lst _ len _ => K len
  | _ => False
def appL (G : LHeap) (size : Nat) (s : LV) (n : Nat) (new : List LV) (K : LV → LHeap → Prop) : Prop := match s with
  | .nilSl => K (.dy G.length 0) (G ++ [.dyn new n size 0 0])
  | .dy p k => match G[p]? with
    | some (.dyn l len esz ver st) => k = ver ∧ (esz = size ∧ 0 < esz) ∧ len ≤ 1000000000 ∧ K (.dy p (ver + 1)) (G.set p (.dyn (l ++ new) (len + n) esz (ver + 1) (st + 1)))
    | _ => False
  | .vw p k lo len => match G[p]? with
    | some (.dyn l len0 esz ver st) => k = ver ∧ (esz = size ∧ lo = 0 ∧ 0 < n) ∧ len ≤ 1000000000 ∧ if (len + n) * esz ≤ l.length then K (.vw p k 0 (len + n)) (G.set p (.dyn (layLV l (len * esz) new) len0 esz ver (st + 1))) ∧ K (.dy G.length 0) (G ++ [.dyn (l.take (len * esz) ++ new) (len + n) size 0 0]) else len = len0 ∧ 0 < esz ∧ K (.dy p (ver + 1)) (G.set p (.dyn (l ++ new) (len + n) esz (ver + 1) (st + 1))) ∧ K (.dy G.length 0) (G ++ [.dyn (l ++ new) (len + n) size 0 0])
    | _ => False
  | _ => False
noncomputable def fillL (ρ : LEnv) (cs : List LV) : List (Nat × Nat × Lx) → Option (List LV)
  | [] => some cs
  | (off, size, x) :: ps => match (x.ev ρ).cells with
    | none => none
    | some l => if l.length = size ∧ off + size ≤ cs.length then fillL ρ (layLV cs off l) ps else none
/-! ### Maps -/
/-- What keys are compared by. -/
def keyL (d : TypeDesc) (a b : LV) : Option Bool := match d, a, b with
  | .int _, .i a, .i b => some (decide (a = b))
  | .int _, .u a, .u b => some (decide (a = b))
  | .string, .str a, .str b => some (decide (a = b))
  | _, _, _ => none
/-- What stands at a key, or nothing; K is not asked where keys are not compared. -/
def findL (d : TypeDesc) (k : LV) (K : Option LV → Prop) : List (LV × LV × Nat) → Prop
  | [] => K none
  | (k', v, _) :: l => match keyL d k k' with
    | some b => brL b (K (some v)) (findL d k K l)
    | none => False
/-- An entry is put. -/
def putL (d : TypeDesc) (k v : LV) (clock : Nat) (K : List (LV × LV × Nat) → Bool → Prop) : List (LV × LV × Nat) → Prop
  | [] => K [(k, v, clock)] true
  | (k', v', n) :: l => match keyL d k k' with
    | some b => brL b (K ((k, v, n) :: l) false) (putL d k v clock (fun r new => K ((k', v', n) :: r) new) l)
    | none => False
def mapL (G : LHeap) (x : LV) (K : List (LV × LV × Nat) → Prop) : Prop := match x with
  | .nilMap => K []
  | .map p => match G[p]? with
    | some (.map es _ _) => K es
    | _ => False
  | _ => False
def lookK (z : LV) (ok : Bool) (K : LV → Prop) : Option LV → Prop
  | some v => K (match ok with | true => .tup [v, .bool true] | false => v)
  | none => K (match ok with | true => .tup [z, .bool false] | false => z)
def setK (G : LHeap) (p ck st : Nat) (K : LHeap → Prop) : List (LV × LV × Nat) → Bool → Prop := fun es new => K (G.set p (.map es (match new with | true => ck + 1 | false => ck) (st + 1)))
def updL' (G : LHeap) (d : TypeDesc) (m k v : LV) (K : LHeap → Prop) : Prop := match m with
  | .map p => match G[p]? with
    | some (.map es ck st) => putL d k v ck (setK G p ck st K) es
    | _ => False
  | _ => False
/-- A slice's bound. -/
noncomputable def bndL (ρ : LEnv) (d : Nat) (x : Option Lx) (K : Nat → Prop) : Prop := match x with
  | none => K d
  | some x => match x.ev ρ with
    | .i n => 0 ≤ n ∧ K n.toNat
    | .u n => K n.toNat
    | _ => False

/-! ### Calls -/
inductive LTgt where
  | fn (f : Nat)
  | yield (p : Nat)
def TgtR (c : Cx) : LTgt → Tgt → Prop
  | .fn f, .fn g => f = g
  | .yield p, .yield o => c.hd[p]? = some (0, .ptr o 0 0)
  | _, _ => False
def tgtOk (P : Program) : LTgt → Prop
  | .fn f => callable P f = true ∧ isClone P f = false
  | .yield _ => True
/-- What a call comes to. -/
def CallL (P : Program) (t : LTgt) (args : List LV) (G : LHeap) (K : LV → LHeap → Prop) : Prop :=
  tgtOk P t ∧ ∀ c t1 args1, HSim c G → TgtR c t t1 → ARs c args args1 → ∃ m v1 H', callA P (OL P) m t1 args1 c.H = .ok v1 H' ∧ ∃ c' v G', c'.H = H' ∧ HSim c' G' ∧ Step c G c' G' ∧ AR c' v v1 ∧ K v G'

/-- What an operation comes to. -/
noncomputable def OpL (P : Program) (ρ : LEnv) (G : LHeap) (o : LOp) (K : LV → LHeap → Prop) : Prop := match o with
  | .move x => K (x.ev ρ) G
  | .pick c a b => match c.ev ρ with
    | .bool t => match a.ev ρ, b.ev ρ with
      | .bool x, .bool y => K (.bool (match t with | true => x | false => y)) G
      | x, y => brL t (K x G) (K y G)
    | _ => False
  | .alloc l => K (.ptr G.length 0) (G ++ [.cells l 0])
  | .box x => match (x.ev ρ).cells with
    | some l => K (.ptr G.length 0) (G ++ [.cells l 0])
    | none => False
  | .build cs ps => match fillL ρ cs ps with
    | some l => K (.agg l) G
    | none => False
  | .buildSl size len cs ps => match fillL ρ cs ps with
    | some l => l.length = len * size ∧ K (.dy G.length 0) (G ++ [.dyn l len size 0 0])
    | none => False
  | .load1 x => read1 G (x.ev ρ) fun v => K v G
  | .loadN n x => readL G (x.ev ρ) n fun l => K (.agg l) G
  | .store n x y => match (y.ev ρ).cells with
    | some l => l.length = n ∧ writeL G (x.ev ρ) l fun G' => K (.tup []) G'
    | none => False
  | .nilChk x => match x.ev ρ with
    | .ptr p i => K (.ptr p i) G
    | .cptr l i => K (.cptr l i) G
    | .fn (.func f) a b => K (.fn (.func f) a b) G
    | _ => False
  | .bin op g t x y => binL P op g t (x.ev ρ) (y.ev ρ) fun v => K v G
  | .un op x => unL op (x.ev ρ) fun v => K v G
  | .cvInt k x => cvL k (x.ev ρ) fun v => K v G
  | .cvStr x => bytL G (x.ev ρ) fun l => ∃ bs : List UInt8, l = bs.map LV.b ∧ K (.str bs) G
  | .cvSame x => match x.ev ρ with
    | .str l => K (.str l) G
    | _ => False
  | .cvBytes x => match x.ev ρ with
    | .str l => K (.dy G.length 0) (G ++ [.dyn (l.map LV.b) l.length 1 0 0])
    | _ => False
  | .mkFunc f a b => K (.fn (.func f) (a.map (·.ev ρ)) (b.map (·.ev ρ))) G
  | .mkSl size z l c => match l.ev ρ, c.ev ρ with
    | .i l, .i c => l = c ∧ 0 ≤ l ∧ l ≤ 1048576 ∧ z.length = size ∧ K (.dy G.length 0) (G ++ [.dyn (repL z l.toNat) l.toNat size 0 0])
    | _, _ => False
  | .slStr x lo hi => match x.ev ρ with
    | .str l => bndL ρ 0 lo fun a => bndL ρ l.length hi fun b => a ≤ b ∧ b ≤ l.length ∧ K (.str ((l.drop a).take (b - a))) G
    | _ => False
  | .slSl size x lo hi => match x.ev ρ with
    | .nilSl => bndL ρ 0 lo fun a => bndL ρ 0 hi fun b => a = 0 ∧ b = 0 ∧ K .nilSl G
    | .dy p k => match G[p]? with
      | some (.dyn _ len esz ver _) => k = ver ∧ esz = size ∧ bndL ρ 0 lo fun a => bndL ρ len hi fun b => a ≤ b ∧ b ≤ len ∧ K (.vw p k a (b - a)) G
      | _ => False
    | .vw p k l0 len => match G[p]? with
      | some (.dyn _ _ esz ver _) => k = ver ∧ esz = size ∧ bndL ρ 0 lo fun a => bndL ρ len hi fun b => a ≤ b ∧ b ≤ len ∧ K (.vw p k (l0 + a) (b - a)) G
      | _ => False
    | .lst l len esz => esz = size ∧ bndL ρ 0 lo fun a => bndL ρ len hi fun b => a ≤ b ∧ b ≤ len ∧ K (.lst ((l.drop (a * esz)).take ((b - a) * esz)) (b - a) esz) G
    | _ => False
  | .slSl3 size x lo hi mx => match x.ev ρ with
    | .dy p k => match G[p]? with
      | some (.dyn _ len esz ver _) => k = ver ∧ esz = size ∧ bndL ρ 0 lo fun a => bndL ρ len hi fun b => bndL ρ 0 (some mx) fun m => 0 < len ∧ a ≤ b ∧ b ≤ m ∧ m ≤ len ∧ K (.vw p k a (b - a)) G
      | _ => False
    | .lst l len esz => esz = size ∧ bndL ρ 0 lo fun a => bndL ρ len hi fun b => bndL ρ 0 (some mx) fun m => 0 < len ∧ a ≤ b ∧ b ≤ m ∧ m ≤ len ∧ K (.lst ((l.drop (a * esz)).take ((b - a) * esz)) (b - a) esz) G
    | _ => False
  | .fieldAddr off x => match x.ev ρ with
    | .ptr p i => K (.ptr p (i + off)) G
    | .dptr p k i => K (.dptr p k (i + off)) G
    | .cptr l i => K (.cptr l (i + off)) G
    | _ => False
  | .field g n off x => match x.ev ρ with
    | .agg l => match g with
      | true => off + n ≤ l.length ∧ K (.agg ((l.drop off).take n)) G
      | false => nthL l off fun v => K v G
    | _ => False
  | .ixAddr size x i => match i.ev ρ with
    | .i n => match x.ev ρ with
      | .dy p k => match G[p]? with
        | some (.dyn _ len esz ver _) => k = ver ∧ esz = size ∧ 0 ≤ n ∧ n < len ∧ K (.dptr p k (n.toNat * size)) G
        | _ => False
      | .vw p k lo len => match G[p]? with
        | some (.dyn _ _ esz ver _) => k = ver ∧ esz = size ∧ 0 ≤ n ∧ n < len ∧ K (.dptr p k ((lo + n.toNat) * size)) G
        | _ => False
      | .lst l len esz => esz = size ∧ 0 ≤ n ∧ n < len ∧ K (.cptr l (n.toNat * size)) G
      | _ => False
    | _ => False
  | .ixStr x i => match x.ev ρ, i.ev ρ with
    | .str l, .i n => 0 ≤ n ∧ n < l.length ∧ K (.b (l.getD n.toNat 0)) G
    | .str l, .u n => n.toNat < l.length ∧ K (.b (l.getD n.toNat 0)) G
    | .str l, .b n => n.toNat < l.length ∧ K (.b (l.getD n.toNat 0)) G
    | _, _ => False
  | .extract i x => match x.ev ρ with
    | .tup l => nthL l i fun v => K v G
    | _ => False
  | .lenStr x => match x.ev ρ with
    | .str l => K (.i l.length) G
    | _ => False
  | .lenSl x => lenL G (x.ev ρ) fun n => K (.i n) G
  | .maxi mx x y => match x.ev ρ, y.ev ρ with
    | .i a, .i b => K (.i (match mx with | true => max a b | false => min a b)) G
    | .u a, .u b => K (.u (match mx with | true => if a < b then b else a | false => if b < a then b else a)) G
    | _, _ => False
  | .max3 mx x y z => match x.ev ρ with
    | .i a => match y.ev ρ with
      | .i b => match z.ev ρ with
        | .i d => K (.i (match mx with | true => max (max a b) d | false => min (min a b) d)) G
        | _ => False
      | _ => False
    | _ => False
  | .ixAddrArr len size x i => match i.ev ρ with
    | .i n => 0 ≤ n ∧ n < len ∧ match x.ev ρ with
      | .ptr p j => K (.ptr p (j + n.toNat * size)) G
      | .dptr p k j => K (.dptr p k (j + n.toNat * size)) G
      | .cptr l j => K (.cptr l (j + n.toNat * size)) G
      | _ => False
    | _ => False
  | .ixArr g len size x i => match i.ev ρ with
    | .i n => 0 ≤ n ∧ n < len ∧ match x.ev ρ with
      | .agg l => match g with
        | true => n.toNat * size + size ≤ l.length ∧ K (.agg ((l.drop (n.toNat * size)).take size)) G
        | false => nthL l (n.toNat * size) fun v => K v G
      | _ => False
    | _ => False
  | .lenArr n _ => K (.i n) G
  | .appZ size z s x => match x.ev ρ with
    | .i n => 0 ≤ n ∧ n ≤ 1048576 ∧ z.length = size ∧ appL G size (s.ev ρ) n.toNat (repL z n.toNat) K
    | _ => False
  | .appG size s x => rowL G size (x.ev ρ) fun n l => n ≤ 1048576 ∧ appL G size (s.ev ρ) n l K
  | .copy size d x => rowL G size (x.ev ρ) fun n l => match d.ev ρ with
    | .dy p k => match G[p]? with
      | some (.dyn r len esz ver st) => k = ver ∧ esz = size ∧ K (.i (min n len : Nat)) (G.set p (.dyn (layLV r 0 (l.take (min n len * size))) len esz ver (st + 1)))
      | _ => False
    | .vw p k lo len => match G[p]? with
      | some (.dyn r len0 esz ver st) => k = ver ∧ esz = size ∧ (lo + len) * size ≤ r.length ∧ K (.i (min n len : Nat)) (G.set p (.dyn (layLV r (lo * size) (l.take (min n len * size))) len0 esz ver (st + 1)))
      | _ => False
    | _ => False
  | .clear size z x => match x.ev ρ with
    | .vw p k lo len => match G[p]? with
      | some (.dyn r len0 esz ver st) => k = ver ∧ esz = size ∧ z.length = size ∧ (lo + len) * size ≤ r.length ∧ K .any (G.set p (.dyn (layLV r (lo * size) (repL z len)) len0 esz ver (st + 1)))
      | _ => False
    | _ => False
  | .mkMap0 => K (.map G.length) (G ++ [.map [] 0 0])
  | .mkMap1 x => match x.ev ρ with
    | .i _ => K (.map G.length) (G ++ [.map [] 0 0])
    | _ => False
  | .lookup d z ok x i => mapL G (x.ev ρ) fun es => findL d (i.ev ρ) (lookK z ok fun v => K v G) es
  | .mapUpd d m k v => updL' G d (m.ev ρ) (k.ev ρ) (v.ev ρ) fun G' => K .any G'
  | .lenMap x => mapL G (x.ev ρ) fun es => K (.i es.length) G
  | .slArr n size x lo hi => match x.ev ρ with
    | .ptr p i => match G[p]? with
      | some (.cells l st) => i + n * size ≤ l.length ∧ bndL ρ 0 lo fun a => bndL ρ n hi fun b => a ≤ b ∧ b ≤ n ∧ K (.lst ((l.drop (i + a * size)).take ((b - a) * size)) (b - a) size) (G.set p (.dead (st + 1)))
      | _ => False
    | _ => False
  | .callV f args => match f.ev ρ with
    | .fn (.func g) a b => CallL P (.fn g) (a ++ args.map (·.ev ρ) ++ b) G K
    | .fn (.yield p) [] _ => CallL P (.yield p) (args.map (·.ev ρ)) G K
    | _ => False
end Go.Sv
/- What stands for what stays so: a new object, an object that is turned. -/
namespace Go.Sv

/-! ### Cells -/
theorem getCells_mk {t : Tr AV} : ∀ {n i : Nat} {l : List AV}, l.length = n → (∀ j, j < n → getP (pathOf (i + j)) t = l[j]?) → getCells t i n = some l
  | 0, i, l, h, _ => by
    have : l = [] := List.eq_nil_of_length_eq_zero h
    subst this; rfl
  | n + 1, i, [], h, _ => by simp at h
  | n + 1, i, a :: l, h, k => by
    have h0 := k 0 (by omega)
    simp only [Nat.add_zero, List.getElem?_cons_zero] at h0
    have ih := getCells_mk (t := t) (n := n) (i := i + 1) (l := l) (by simpa using h) (fun j hj => by
      have := k (j + 1) (by omega)
      rw [List.getElem?_cons_succ] at this
      rw [← this, show i + 1 + j = i + (j + 1) from by omega])
    simp only [getCells, h0, ih]
theorem getCells_sub {t : Tr AV} {N i n : Nat} {l : List AV} (h : getCells t 0 N = some l) (hle : i + n ≤ N) : getCells t i n = some ((l.drop i).take n) := by
  obtain ⟨h1, h2⟩ := getCells_spec h
  refine getCells_mk (by simp; omega) (fun j hj => ?_)
  have := h2 (i + j) (by omega)
  rw [Nat.zero_add] at this
  rw [this, List.getElem?_take_of_lt hj, List.getElem?_drop]
theorem getCells_new (l : List AV) : getCells (ofListFrom l 0 .e) 0 l.length = some l :=
  getCells_mk rfl (fun j hj => by rw [get_ofList, if_pos (by omega)]; simp)
/-- Cells laid over cells. -/
def layAV (l : List AV) (i : Nat) (r : List AV) : List AV := l.take i ++ r ++ l.drop (i + r.length)
theorem layAV_length {l r : List AV} {i : Nat} (h : i + r.length ≤ l.length) : (layAV l i r).length = l.length := by
  unfold layAV; simp; omega
theorem layAV_get {l r : List AV} {i : Nat} (h : i + r.length ≤ l.length) (j : Nat) : (layAV l i r)[j]? = if i ≤ j ∧ j < i + r.length then r[j - i]? else l[j]? := by
  have hi : (l.take i).length = i := by simp; omega
  unfold layAV
  by_cases h1 : j < i
  · rw [if_neg (by omega), List.append_assoc, List.getElem?_append_left (by omega), List.getElem?_take_of_lt h1]
  · by_cases h2 : j < i + r.length
    · rw [if_pos (by omega), List.getElem?_append_left (by simp; omega), List.getElem?_append_right (by omega), hi]
    · rw [if_neg (by omega), List.getElem?_append_right (by simp; omega), List.getElem?_drop]
      congr 1
      simp
      omega
theorem getCells_lay {t : Tr AV} {N i : Nat} {l r : List AV} (h : getCells t 0 N = some l) (hle : i + r.length ≤ N) : getCells (ofListFrom r i t) 0 N = some (layAV l i r) := by
  obtain ⟨h1, h2⟩ := getCells_spec h
  refine getCells_mk (by rw [layAV_length (by omega)]; exact h1) (fun j hj => ?_)
  have := h2 j hj
  rw [Nat.zero_add] at this ⊢
  rw [get_ofList, layAV_get (by omega), this]
theorem getCells_app {t : Tr AV} {N : Nat} {l r : List AV} (h : getCells t 0 N = some l) : getCells (ofListFrom r N t) 0 (N + r.length) = some (l ++ r) := by
  obtain ⟨h1, h2⟩ := getCells_spec h
  refine getCells_mk (by simp; omega) (fun j hj => ?_)
  rw [Nat.zero_add, get_ofList]
  by_cases hj' : N ≤ j
  · rw [if_pos ⟨hj', by omega⟩, List.getElem?_append_right (by omega), h1]
  · rw [if_neg (by omega), List.getElem?_append_left (by omega)]
    have := h2 j (by omega)
    rwa [Nat.zero_add] at this

theorem readAt_of {H : Heap} {o v i n N clen : Nat} {t : Tr AV} {ro : Bool} {l : List AV} (hg : H.get o = some (.cells t clen v ro)) (hc : getCells t 0 N = some l) (hN : N ≤ clen) (hle : i + n ≤ N) : readAt H o v i n = some ((l.drop i).take n) := by
  unfold readAt
  rw [hg]
  have hb : Nat.ble (Nat.add i n) clen = true := Nat.ble_eq_true_of_le (by show i + n ≤ clen; omega)
  simp only [Nat.beq_refl, hb]
  exact getCells_sub hc hle
theorem readAt_congr {H H' : Heap} {o : Nat} (h : H'.get o = H.get o) (v i n : Nat) : readAt H' o v i n = readAt H o v i n := by
  unfold readAt; rw [h]
/-- A part of what stands there. -/
theorem readAt_sub {H : Heap} {o v i n j m : Nat} {l : List AV} (h : readAt H o v i n = some l) (hle : j + m ≤ n) : readAt H o v (i + j) m = some ((l.drop j).take m) := by
  unfold readAt at h ⊢
  split at h
  · rename_i t clen ver ro hg
    split at h
    · rename_i hv
      split at h
      · rename_i hb
        have hb' : i + n ≤ clen := Nat.le_of_ble_eq_true hb
        have hb2 : Nat.ble (Nat.add (i + j) m) clen = true := Nat.ble_eq_true_of_le (by show i + j + m ≤ clen; omega)
        simp only [hb2]
        obtain ⟨h1, h2⟩ := getCells_spec h
        refine getCells_mk (by simp; omega) (fun q hq => ?_)
        have := h2 (j + q) (by omega)
        rw [Nat.add_assoc, this, List.getElem?_take_of_lt hq, List.getElem?_drop]
      · cases h
    · cases h
  · cases h
theorem readAt_length {H : Heap} {o v i n : Nat} {l : List AV} (h : readAt H o v i n = some l) : l.length = n := by
  unfold readAt at h
  split at h
  · split at h
    · split at h
      · exact (getCells_spec h).1
      · cases h
    · cases h
  · cases h

/-! ### Lists -/
section lists
variable {c : Cx}
theorem ARs.length : ∀ {l : List LV} {r : List AV}, ARs c l r → l.length = r.length
  | _, _, .nil => rfl
  | _, _, .cons _ es => by simp [ARs.length es]
theorem ARs.get : ∀ {l : List LV} {r : List AV}, ARs c l r → ∀ {i : Nat} {v : LV}, l[i]? = some v → ∃ a, r[i]? = some a ∧ AR c v a
  | _, _, .nil, i, v, h => by simp at h
  | _, _, .cons e es, 0, v, h => by simp only [List.getElem?_cons_zero, Option.some.injEq] at h; subst h; exact ⟨_, rfl, e⟩
  | _, _, .cons e es, i + 1, v, h => by simp only [List.getElem?_cons_succ] at h ⊢; exact ARs.get es h
theorem ARs.append : ∀ {l : List LV} {r : List AV} {l' : List LV} {r' : List AV}, ARs c l r → ARs c l' r' → ARs c (l ++ l') (r ++ r')
  | _, _, _, _, .nil, k => k
  | _, _, _, _, .cons e es, k => .cons e (ARs.append es k)
theorem ARs.drop : ∀ {l : List LV} {r : List AV}, ARs c l r → ∀ n, ARs c (l.drop n) (r.drop n)
  | _, _, h, 0 => h
  | _, _, .nil, _ + 1 => .nil
  | _, _, .cons _ es, n + 1 => ARs.drop es n
theorem ARs.take : ∀ {l : List LV} {r : List AV}, ARs c l r → ∀ n, ARs c (l.take n) (r.take n)
  | _, _, _, 0 => .nil
  | _, _, .nil, _ + 1 => .nil
  | _, _, .cons e es, n + 1 => .cons e (ARs.take es n)
theorem ARs.lay {l r : List LV} {l' r' : List AV} (h : ARs c l l') (k : ARs c r r') (i : Nat) : ARs c (layLV l i r) (layAV l' i r') := by
  unfold layLV layAV
  rw [k.length]
  exact ((h.take i).append k).append (h.drop _)
theorem layLV_length {l r : List LV} {i : Nat} (h : i + r.length ≤ l.length) : (layLV l i r).length = l.length := by
  unfold layLV; simp; omega
theorem ARs.rep {z : List LV} {z' : List AV} (h : ARs c z z') : ∀ n, ARs c (repL z n) (repeatL z' n)
  | 0 => .nil
  | n + 1 => h.append (ARs.rep h n)
theorem repL_length (z : List LV) : ∀ n, (repL z n).length = n * z.length
  | 0 => by simp [repL]
  | n + 1 => by simp [repL, repL_length z n, Nat.add_mul]; omega
end lists

/-! ### Values that stand in code -/
theorem scal_AR (c : Cx) {v : LV} (h : v.scal = true) : AR c v (toA v) := by
  cases v <;> first | (cases h; done) | (unfold toA; constructor)
theorem scals_AR (c : Cx) : ∀ {l : List LV}, l.all LV.scal = true → ARs c l (toAs l)
  | [], _ => by unfold toAs; exact .nil
  | v :: l, h => by
    simp only [List.all_cons, Bool.and_eq_true] at h
    unfold toAs
    exact .cons (scal_AR c h.1) (scals_AR c h.2)
theorem cst_AR (c : Cx) {v : LV} (h : v.cst = true) : AR c v (toA v) := by
  unfold LV.cst at h
  split at h
  · unfold toA; exact .fn .nil .nil
  · unfold toA; exact .agg (scals_AR c h)
  · unfold toA toAs; exact .tup .nil
  · exact scal_AR c h

theorem AR.cells {c : Cx} {v : LV} {a : AV} (h : AR c v a) {l : List LV} (hl : v.cells = some l) : ∃ l', a.cells = some l' ∧ ARs c l l' := by
  cases v with
  | any => cases hl
  | tup _ => cases hl
  | agg l0 => cases hl; cases h with | agg h => exact ⟨_, rfl, h⟩
  | dy p k =>
    simp only [LV.cells, Option.some.injEq] at hl
    subst hl
    have h0 := h
    refine ⟨[a], ?_, .cons h0 .nil⟩
    cases h with | dy _ _ _ hs => cases a <;> first | rfl | cases hs
  | vw p k lo len =>
    simp only [LV.cells, Option.some.injEq] at hl
    subst hl
    have h0 := h
    refine ⟨[a], ?_, .cons h0 .nil⟩
    cases h with | vw _ _ _ hs _ => cases a <;> first | rfl | cases hs
  | _ =>
    simp only [LV.cells, Option.some.injEq] at hl
    subst hl
    have h0 := h
    refine ⟨[a], ?_, .cons h0 .nil⟩
    cases h <;> rfl

/-! ### What was known stays known -/
theorem CxLe.refl (c : Cx) : CxLe c c := ⟨fun _ k h e => ⟨k, h, e, Nat.le_refl _, fun _ => rfl, fun _ => rfl⟩, fun _ h => ⟨h, rfl⟩⟩
theorem CxLe.trans {a b c : Cx} (h : CxLe a b) (k : CxLe b c) : CxLe a c := by
  refine ⟨fun p v x e => ?_, fun o e => ?_⟩
  · obtain ⟨v1, x1, e1, l1, s1, f1⟩ := h.hd p v x e
    obtain ⟨v2, x2, e2, l2, s2, f2⟩ := k.hd p v1 x1 e1
    refine ⟨v2, x2, e2, Nat.le_trans l1 l2, fun q => ?_, fun q => ?_⟩
    · have q1 : v = v1 := by omega
      have q2 : v1 = v2 := by omega
      rw [s1 q1, s2 q2]
    · have q1 := f1 q
      have := s1 q1
      subst this
      rw [q1, f2 q]
  · obtain ⟨h1, h2⟩ := h.fz o e
    obtain ⟨h3, h4⟩ := k.fz o h1
    exact ⟨h3, h4.trans h2⟩
theorem CxLe.fix {c c' : Cx} (h : CxLe c c') {p k : Nat} {x : AV} (e : c.hd[p]? = some (k, x)) (hf : fixd x = true) : c'.hd[p]? = some (k, x) := by
  obtain ⟨k', x', e', _, s, f⟩ := h.hd p k x e
  have := f hf
  subst this
  rw [s rfl]; exact e'

mutual
theorem AR.mono {c c' : Cx} (h : CxLe c c') : ∀ {v : LV} {a : AV}, AR c v a → AR c' v a
  | _, _, .any a => .any a
  | _, _, .bool b => .bool b
  | _, _, .u x => .u x
  | _, _, .b x => .b x
  | _, _, .i n => .i n
  | _, _, .int k n => .int k n
  | _, _, .str l => .str l
  | _, _, .nilPtr => .nilPtr
  | _, _, .ptr e => .ptr (h.fix e rfl)
  | _, _, .dptr hp hk ha => by
    obtain ⟨k2, h2, e2, l2, s2, _⟩ := h.hd _ _ _ hp
    refine .dptr e2 (Nat.le_trans hk l2) (fun q => ?_)
    have q1 := ha (by omega)
    rw [← s2 (by omega)]
    exact q1
  | _, _, .cptr hf hr hl => .cptr (h.fz _ hf).1 (by rw [readAt_congr (h.fz _ hf).2]; exact hr) (ARs.mono h hl)
  | _, _, .nilSl => .nilSl
  | _, _, .dy hp hk ha hs => by
    obtain ⟨k2, h2, e2, l2, s2, _⟩ := h.hd _ _ _ hp
    refine .dy e2 (Nat.le_trans hk l2) (fun q => ?_) hs
    have q1 := ha (by omega)
    rw [← s2 (by omega)]
    exact q1
  | _, _, .vw hp hk ha hs hz => by
    obtain ⟨k2, h2, e2, l2, s2, _⟩ := h.hd _ _ _ hp
    refine .vw e2 (Nat.le_trans hk l2) (fun q => ?_) hs (fun q => ?_)
    · have q1 := ha (by omega)
      rw [← s2 (by omega)]
      exact q1
    · have q1 := hz (by omega)
      rw [← s2 (by omega)]
      exact q1
  | _, _, .lst hf hrm hlen hr hl => .lst (h.fz _ hf).1 hrm hlen (by rw [readAt_congr (h.fz _ hf).2]; exact hr) (ARs.mono h hl)
  | _, _, .lstNil => .lstNil
  | _, _, .lstEmp => .lstEmp
  | _, _, .nilMap => .nilMap
  | _, _, .map e => .map (h.fix e rfl)
  | _, _, .nilFn => .nilFn
  | _, _, .fn hl hr => .fn (ARs.mono h hl) (ARs.mono h hr)
  | _, _, .yield e => .yield (h.fix e rfl)
  | _, _, .nilIf => .nilIf
  | _, _, .iface e => .iface (AR.mono h e)
  | _, _, .agg e => .agg (ARs.mono h e)
  | _, _, .tup e => .tup (ARs.mono h e)
theorem ARs.mono {c c' : Cx} (h : CxLe c c') : ∀ {l : List LV} {r : List AV}, ARs c l r → ARs c' l r
  | _, _, .nil => .nil
  | _, _, .cons e es => .cons (AR.mono h e) (ARs.mono h es)
end
theorem MRs.mono {c c' : Cx} (h : CxLe c c') : ∀ {l : List (LV × LV × Nat)} {r : List (AV × AV × Nat)}, MRs c l r → MRs c' l r
  | _, _, .nil => .nil
  | _, _, .cons hk hv hs => .cons (hk.mono h) (hv.mono h) (MRs.mono h hs)
theorem EnvL.mono {c c' : Cx} (h : CxLe c c') {ρ : LEnv} {E : Tr AV} (k : EnvL c ρ E) : EnvL c' ρ E := fun t => (k t).mono h

theorem ObR.mono {c c' : Cx} (h : CxLe c c') {k : Nat} {x : AV} {ob : LObj} (hg : ∀ o, idOf x = some o → c'.H.get o = c.H.get o) (r : ObR c k x ob) : ObR c' k x ob := by
  cases ob with
  | dead st => trivial
  | cells l st =>
    obtain ⟨r0, o, t, l', rfl, r2, r3, r4⟩ := r
    exact ⟨r0, o, t, l', rfl, by rw [hg o rfl]; exact r2, r3, r4.mono h⟩
  | dyn l len esz ver st =>
    obtain ⟨r0, r1, r2⟩ := r
    refine ⟨r0, r1, ?_⟩
    rcases r2 with r2 | ⟨o, v, room, t, clen, l', rfl, r3, r4, r5, r6, r7⟩
    · exact .inl r2
    · exact .inr ⟨o, v, room, t, clen, l', rfl, by rw [hg o rfl]; exact r3, r4, r5, r6.mono h, r7⟩
  | map es ck st =>
    obtain ⟨r0, o, es', rfl, r2, r3⟩ := r
    exact ⟨r0, o, es', rfl, by rw [hg o rfl]; exact r2, r3.mono h⟩
  | iter l pos =>
    obtain ⟨r0, o, rfl, r2⟩ := r
    exact ⟨r0, o, rfl, by rw [hg o rfl]; exact r2⟩
  | loop s pend f n ρ ps a b d =>
    obtain ⟨r0, o, od, E, rfl, r2, r3, r4⟩ := r
    exact ⟨r0, o, od, E, rfl, h.fix r2 rfl, by rw [hg o rfl]; exact r3, r4.mono h⟩
  | defd op =>
    obtain ⟨r0, o, rfl, r2⟩ := r
    exact ⟨r0, o, rfl, by rw [hg o rfl]; exact r2⟩

/-! ### Steps -/
theorem Step.refl (c : Cx) (G : LHeap) : Step c G c G := by
  refine ⟨.refl c, Nat.le_refl _, fun _ _ _ => rfl, fun _ h => .inl h, fun _ h => .inl h, fun p ob ob' e1 e2 => ?_, fun p ob ob' k h o e1 e2 _ _ _ _ => ?_⟩
  · rw [e1] at e2; cases e2
    exact Nat.le_refl _
  · rw [e1] at e2; cases e2
    exact ⟨rfl, rfl, rfl⟩
theorem Step.trans {c c1 c2 : Cx} {G G1 G2 : LHeap} (h0 : HSim c G) (h1 : HSim c1 G1) (s1 : Step c G c1 G1) (s2 : Step c1 G1 c2 G2) : Step c G c2 G2 := by
  have mid : ∀ p ob, G[p]? = some ob → ∃ ob1, G1[p]? = some ob1 := fun p ob e => by
    have hp : p < c.hd.length := by rw [h0.len]; exact (List.getElem?_eq_some_iff.1 e).1
    obtain ⟨k, h, e3⟩ : ∃ k h, c.hd[p]? = some (k, h) := ⟨_, _, List.getElem?_eq_getElem hp⟩
    obtain ⟨k1, x1, q1, _, _, _⟩ := s1.le.hd p k h e3
    have hp : p < G1.length := by rw [← h1.len]; exact (List.getElem?_eq_some_iff.1 q1).1
    exact ⟨_, List.getElem?_eq_getElem hp⟩
  refine ⟨s1.le.trans s2.le, Nat.le_trans s1.nx s2.nx, fun o ho hn => ?_, fun o ho => ?_, fun o ho => ?_, fun p ob ob2 e1 e2 => ?_, fun p ob ob2 k h o e1 e2 e3 e4 hl he => ?_⟩
  · rw [s2.frame o (Nat.lt_of_lt_of_le ho s1.nx) (fun hc => ?_), s1.frame o ho hn]
    rcases s1.new o hc with h | h
    · exact hn h
    · omega
  · rcases s2.new o ho with h | h
    · exact s1.new o h
    · exact .inr (Nat.le_trans s1.nx h)
  · rcases s2.fznew o ho with h | h | h
    · exact s1.fznew o h
    · rcases s1.new o h with h | h
      · exact .inr (.inl h)
      · exact .inr (.inr h)
    · exact .inr (.inr (Nat.le_trans s1.nx h))
  · obtain ⟨ob1, q2⟩ := mid p ob e1
    exact Nat.le_trans (s1.mono p ob ob1 e1 q2) (s2.mono p ob1 ob2 q2 e2)
  · obtain ⟨ob1, q2⟩ := mid p ob e1
    have m1 := s1.mono p ob ob1 e1 q2
    have m2 := s2.mono p ob1 ob2 q2 e2
    obtain ⟨rfl, r3, r4⟩ := s1.st p ob ob1 k h o e1 q2 e3 e4 hl (by omega)
    obtain ⟨rfl, r7, r8⟩ := s2.st p ob1 ob2 k h o q2 e2 (by rw [r4]; exact e3) e4 hl (by omega)
    rw [r7, r8, r3, r4]
    exact ⟨rfl, rfl, rfl⟩

/-! ### A new object; an object that is turned -/
theorem HSim.push {c : Cx} {G : LHeap} (hs : HSim c G) {H' : Heap} {x : AV} {ob : LObj} (hnx : c.H.next ≤ H'.next) (hfr : ∀ o, o < c.H.next → H'.get o = c.H.get o) (hid : ∀ o, idOf x = some o → c.H.next ≤ o ∧ o < H'.next)
    (hob : ObR ⟨c.hd ++ [(0, x)], c.Fz, H'⟩ 0 x ob) : HSim ⟨c.hd ++ [(0, x)], c.Fz, H'⟩ (G ++ [ob]) ∧ Step c G ⟨c.hd ++ [(0, x)], c.Fz, H'⟩ (G ++ [ob]) ∧ CxLe c ⟨c.hd ++ [(0, x)], c.Fz, H'⟩ := by
  have hhd : ∀ (p k : Nat) (h : AV), c.hd[p]? = some (k, h) → (c.hd ++ [(0, x)])[p]? = some (k, h) := fun p k h e => by
    rw [List.getElem?_append_left (List.getElem?_eq_some_iff.1 e).1]; exact e
  have hle : CxLe c ⟨c.hd ++ [(0, x)], c.Fz, H'⟩ := ⟨fun p k h e => ⟨k, h, hhd p k h e, Nat.le_refl _, fun _ => rfl, fun _ => rfl⟩, fun o ho => ⟨ho, hfr o (hs.fz o ho)⟩⟩
  have hinv : ∀ (p : Nat) (k : Nat) (h : AV) (ob' : LObj), (c.hd ++ [(0, x)])[p]? = some (k, h) → (G ++ [ob])[p]? = some ob' → (c.hd[p]? = some (k, h) ∧ G[p]? = some ob') ∨ (p = G.length ∧ k = 0 ∧ h = x ∧ ob' = ob) := by
    intro p k h ob' e1 e2
    by_cases hp : p < G.length
    · rw [List.getElem?_append_left hp] at e2
      rw [List.getElem?_append_left (by rw [hs.len]; exact hp)] at e1
      exact .inl ⟨e1, e2⟩
    · have hp' : p = G.length := by
        have := (List.getElem?_eq_some_iff.1 e2).1
        simp at this
        omega
      subst hp'
      rw [List.getElem?_concat_length] at e2
      rw [← hs.len, List.getElem?_concat_length] at e1
      cases e1; cases e2
      exact .inr ⟨rfl, rfl, rfl, rfl⟩
  have hown : ∀ o, Own ⟨c.hd ++ [(0, x)], c.Fz, H'⟩ (G ++ [ob]) o → Own c G o ∨ (c.H.next ≤ o ∧ o < H'.next) := by
    rintro o ⟨p, ob', k, h, e1, e2, e3, e4⟩
    rcases hinv p k h ob' e3 e1 with ⟨q1, q2⟩ | ⟨_, _, rfl, _⟩
    · exact .inl ⟨p, ob', k, h, q2, e2, q1, e4⟩
    · exact .inr (hid o e4)
  refine ⟨⟨by simp [hs.len], fun o ho => Nat.lt_of_lt_of_le (hs.fz o ho) hnx, fun o ho => ?_, fun o ho hf => ?_, fun p ob' k h e1 e2 => ?_, ?_⟩, ⟨hle, hnx, fun o ho _ => hfr o ho, fun o ho => ?_, fun o ho => .inl ho, fun p ob1 ob2 e1 e2 => ?_, fun p ob1 ob2 k h o e1 e2 e3 e4 hl _ => ?_⟩, hle⟩
  · rcases hown o ho with h | h
    · exact Nat.lt_of_lt_of_le (hs.lt o h) hnx
    · exact h.2
  · rcases hown o ho with h | h
    · exact hs.sep o h hf
    · have := hs.fz o hf; omega
  · rcases hinv p k h ob' e2 e1 with ⟨q1, q2⟩ | ⟨_, rfl, rfl, rfl⟩
    · by_cases hl : ob'.live = true
      · exact (hs.obj p ob' k h q2 q1).mono hle (fun o ho => hfr o (hs.lt o ⟨p, ob', k, h, q2, hl, q1, ho⟩))
      · cases ob' <;> first | exact absurd rfl hl | trivial
    · exact hob
  · intro p q ob1 ob2 k h k' h' o e1 e2 e3 e4 e5 e6 e7 e8
    rcases hinv p k h ob1 e5 e1 with ⟨q1, q2⟩ | ⟨r1, _, rfl, rfl⟩ <;> rcases hinv q k' h' ob2 e6 e2 with ⟨q3, q4⟩ | ⟨r2, _, rfl, rfl⟩
    · exact hs.excl p q ob1 ob2 k h k' h' o q2 q4 e3 e4 q1 q3 e7 e8
    · have := hs.lt o ⟨p, ob1, k, h, q2, e3, q1, e7⟩
      have := hid o e8; omega
    · have := hs.lt o ⟨q, ob2, k', h', q4, e4, q3, e8⟩
      have := hid o e7; omega
    · omega
  · rcases hown o ho with h | h
    · exact .inl h
    · exact .inr h.1
  · rw [List.getElem?_append_left (List.getElem?_eq_some_iff.1 e1).1, e1] at e2
    cases e2; exact Nat.le_refl _
  · rw [List.getElem?_append_left (List.getElem?_eq_some_iff.1 e1).1, e1] at e2
    cases e2
    have hlive : ob1.live = true := by cases ob1 <;> first | rfl | cases hl
    exact ⟨rfl, hfr o (hs.lt o ⟨p, ob1, k, h, e1, hlive, e3, e4⟩), by rw [hhd p k h e3, e3]⟩

/-- An object is turned: what it was may go on, or leave what it was for something new. -/
theorem HSim.upd {c : Cx} {G : LHeap} (hs : HSim c G) {p k k' : Nat} {x x' : AV} {ob ob' : LObj} {H' : Heap} (hG : G[p]? = some ob) (hl : ob.live = true) (hp : c.hd[p]? = some (k, x)) (hnx : c.H.next ≤ H'.next)
    (hfr : ∀ o, o < c.H.next → idOf x ≠ some o → H'.get o = c.H.get o) (hid : ∀ o, idOf x' = some o → (idOf x = some o ∨ c.H.next ≤ o) ∧ o < H'.next)
    (hk : k ≤ k') (hx : k = k' → x = x') (hf : fixd x = true → k = k') (hst : ob.st < ob'.st ∨ (ob.stp = false ∧ ob.st ≤ ob'.st))
    (hob : CxLe c ⟨c.hd.set p (k', x'), c.Fz, H'⟩ → ObR ⟨c.hd.set p (k', x'), c.Fz, H'⟩ k' x' ob') :
    HSim ⟨c.hd.set p (k', x'), c.Fz, H'⟩ (G.set p ob') ∧ Step c G ⟨c.hd.set p (k', x'), c.Fz, H'⟩ (G.set p ob') ∧ CxLe c ⟨c.hd.set p (k', x'), c.Fz, H'⟩ := by
  have hpl : p < c.hd.length := (List.getElem?_eq_some_iff.1 hp).1
  have hpg : p < G.length := (List.getElem?_eq_some_iff.1 hG).1
  have hownx : ∀ o, idOf x = some o → Own c G o := fun o ho => ⟨p, ob, k, x, hG, hl, hp, ho⟩
  have hle : CxLe c ⟨c.hd.set p (k', x'), c.Fz, H'⟩ := by
    refine ⟨fun q k1 h1 e => ?_, fun o ho => ⟨ho, hfr o (hs.fz o ho) (fun q => hs.sep o (hownx o q) ho)⟩⟩
    by_cases hq : q = p
    · subst hq
      rw [hp] at e; cases e
      exact ⟨k', x', by dsimp only; rw [List.getElem?_set_self hpl], hk, hx, hf⟩
    · exact ⟨k1, h1, by dsimp only; rw [List.getElem?_set_ne (Ne.symm hq)]; exact e, Nat.le_refl _, fun _ => rfl, fun _ => rfl⟩
  have hinv : ∀ (q : Nat) (k1 : Nat) (h1 : AV) (ob1 : LObj), (c.hd.set p (k', x'))[q]? = some (k1, h1) → (G.set p ob')[q]? = some ob1 → (q ≠ p ∧ c.hd[q]? = some (k1, h1) ∧ G[q]? = some ob1) ∨ (q = p ∧ k1 = k' ∧ h1 = x' ∧ ob1 = ob') := by
    intro q k1 h1 ob1 e1 e2
    by_cases hq : q = p
    · subst hq
      rw [List.getElem?_set_self hpl] at e1
      rw [List.getElem?_set_self hpg] at e2
      cases e1; cases e2
      exact .inr ⟨rfl, rfl, rfl, rfl⟩
    · rw [List.getElem?_set_ne (Ne.symm hq)] at e1 e2
      exact .inl ⟨hq, e1, e2⟩
  have hother : ∀ (q : Nat) (k1 : Nat) (h1 : AV) (ob1 : LObj) (o : Nat), q ≠ p → c.hd[q]? = some (k1, h1) → G[q]? = some ob1 → ob1.live = true → idOf h1 = some o → idOf x ≠ some o := by
    intro q k1 h1 ob1 o hq e1 e2 e3 e4 e5
    exact hq (hs.excl q p ob1 ob k1 h1 k x o e2 hG e3 hl e1 hp e4 e5)
  have hown : ∀ o, Own ⟨c.hd.set p (k', x'), c.Fz, H'⟩ (G.set p ob') o → (Own c G o ∧ o < c.H.next) ∨ (c.H.next ≤ o ∧ o < H'.next) := by
    rintro o ⟨q, ob1, k1, h1, e1, e2, e3, e4⟩
    rcases hinv q k1 h1 ob1 e3 e1 with ⟨_, q1, q2⟩ | ⟨_, _, rfl, _⟩
    · have := (⟨q, ob1, k1, h1, q2, e2, q1, e4⟩ : Own c G o)
      exact .inl ⟨this, hs.lt o this⟩
    · obtain ⟨q1, q2⟩ := hid o e4
      rcases q1 with q1 | q1
      · exact .inl ⟨hownx o q1, hs.lt o (hownx o q1)⟩
      · exact .inr ⟨q1, q2⟩
  refine ⟨⟨by simp [hs.len], fun o ho => Nat.lt_of_lt_of_le (hs.fz o ho) hnx, fun o ho => ?_, fun o ho hf => ?_, fun q ob1 k1 h1 e1 e2 => ?_, ?_⟩, ⟨hle, hnx, fun o ho hn => hfr o ho (fun q => hn (hownx o q)), fun o ho => ?_, fun o ho => .inl ho, fun q ob1 ob2 e1 e2 => ?_, fun q ob1 ob2 k1 h1 o e1 e2 e3 e4 hstp he => ?_⟩, hle⟩
  · rcases hown o ho with h | h
    · exact Nat.lt_of_lt_of_le h.2 hnx
    · exact h.2
  · rcases hown o ho with h | h
    · exact hs.sep o h.1 hf
    · have := hs.fz o hf; omega
  · rcases hinv q k1 h1 ob1 e2 e1 with ⟨hq, q1, q2⟩ | ⟨_, rfl, rfl, rfl⟩
    · by_cases hl1 : ob1.live = true
      · refine (hs.obj q ob1 k1 h1 q2 q1).mono hle (fun o ho => hfr o (hs.lt o ⟨q, ob1, k1, h1, q2, hl1, q1, ho⟩) (hother q k1 h1 ob1 o hq q1 q2 hl1 ho))
      · cases ob1 <;> first | exact absurd rfl hl1 | trivial
    · exact hob hle
  · intro q r ob1 ob2 k1 h1 k2 h2 o e1 e2 e3 e4 e5 e6 e7 e8
    rcases hinv q k1 h1 ob1 e5 e1 with ⟨r0, q1, q2⟩ | ⟨r1, _, rfl, rfl⟩ <;> rcases hinv r k2 h2 ob2 e6 e2 with ⟨r3, q3, q4⟩ | ⟨r2, _, rfl, rfl⟩
    · exact hs.excl q r ob1 ob2 k1 h1 k2 h2 o q2 q4 e3 e4 q1 q3 e7 e8
    · have h3 := hs.lt o ⟨q, ob1, k1, h1, q2, e3, q1, e7⟩
      rcases (hid o e8).1 with h | h
      · exact absurd h (hother q k1 h1 ob1 o r0 q1 q2 e3 e7)
      · omega
    · have h3 := hs.lt o ⟨r, ob2, k2, h2, q4, e4, q3, e8⟩
      rcases (hid o e7).1 with h | h
      · exact absurd h (hother r k2 h2 ob2 o r3 q3 q4 e4 e8)
      · omega
    · omega
  · rcases hown o ho with h | h
    · exact .inl h.1
    · exact .inr h.1
  · by_cases hq : q = p
    · subst hq
      rw [List.getElem?_set_self hpg] at e2
      cases e2
      rw [hG] at e1; cases e1
      rcases hst with h | h
      · exact Nat.le_of_lt h
      · exact h.2
    · rw [List.getElem?_set_ne (Ne.symm hq), e1] at e2
      cases e2; exact Nat.le_refl _
  · by_cases hq : q = p
    · subst hq
      rw [List.getElem?_set_self hpg] at e2
      cases e2
      rw [hG] at e1; cases e1
      rcases hst with h | h
      · omega
      · rw [h.1] at hstp; cases hstp
    · rw [List.getElem?_set_ne (Ne.symm hq), e1] at e2
      cases e2
      have hl1 : ob1.live = true := by cases ob1 <;> first | rfl | cases hstp
      exact ⟨rfl, hfr o (hs.lt o ⟨q, ob1, k1, h1, e1, hl1, e3, e4⟩) (hother q k1 h1 ob1 o hq e3 e1 hl1 e4), by dsimp only; rw [List.getElem?_set_ne (Ne.symm hq)]⟩
end Go.Sv
/- The logic's numbers and texts against the evaluator's. -/
namespace Go.Sv

theorem wrapA_u64 (n : Int) : wrapA .u64 n = n % 18446744073709551616 := by
  rw [wrapA_spec]; rfl
theorem wrapA_u8 (n : Int) : wrapA .u8 n = n % 256 := by
  rw [wrapA_spec]; rfl
theorem wrapA_i64 {n : Int} (h : inI n) : wrapA .i64 n = n := by
  rw [wrapA_spec]
  obtain ⟨h1, h2⟩ := h
  show (if (true && decide (n % 18446744073709551616 ≥ 9223372036854775808)) = true then n % 18446744073709551616 - 18446744073709551616 else n % 18446744073709551616) = n
  simp only [Bool.true_and, decide_eq_true_eq]
  split <;> omega
theorem eqI_dec (a b : Int) : eqI a b = decide (a = b) := by
  rw [eqI_spec, Bool.eq_iff_iff]; simp
theorem ltI_dec (a b : Int) : ltI a b = decide (a < b) := ltI_spec a b
theorem not_lt_dec (a b : Int) : (!(decide (b < a))) = decide (a ≤ b) := by
  rw [Bool.eq_iff_iff]; simp
theorem fullK_u64 (x : UInt64) : Nat.blt x.toNat (fullK .u64) = true := by
  have := x.toNat_lt
  unfold Nat.blt
  exact Nat.ble_eq_true_of_le (by show x.toNat + 1 ≤ 2 * 9223372036854775808; omega)
theorem fullK_u8 (x : UInt8) : Nat.blt x.toNat (fullK .u8) = true := by
  have := x.toNat_lt
  unfold Nat.blt
  exact Nat.ble_eq_true_of_le (by show x.toNat + 1 ≤ 2 * 128; omega)

variable {c : Cx} {K : LV → Prop}
theorem AR.u' {x : UInt64} {n : Int} (h : n = Int.ofNat x.toNat) : AR c (.u x) (.int .u64 n) := by subst h; exact .u x
theorem AR.b' {x : UInt8} {n : Int} (h : n = Int.ofNat x.toNat) : AR c (.b x) (.int .u8 n) := by subst h; exact .b x
theorem AR.bool' {x y : Bool} (h : y = x) : AR c (.bool x) (.bool y) := by subst h; exact .bool y

theorem dec_u_eq (a b : UInt64) : decide (Int.ofNat a.toNat = Int.ofNat b.toNat) = decide (a = b) := by
  rw [Bool.eq_iff_iff]; simp only [decide_eq_true_eq]
  constructor
  · intro h; exact UInt64.toNat_inj.1 (Int.ofNat.inj h)
  · intro h; rw [h]
theorem dec_u_lt (a b : UInt64) : decide (Int.ofNat a.toNat < Int.ofNat b.toNat) = decide (a < b) := by
  rw [Bool.eq_iff_iff]; simp only [decide_eq_true_eq, UInt64.lt_iff_toNat_lt]
  exact Int.ofNat_lt
theorem dec_u_le (a b : UInt64) : decide (Int.ofNat a.toNat ≤ Int.ofNat b.toNat) = decide (a ≤ b) := by
  rw [Bool.eq_iff_iff]; simp only [decide_eq_true_eq, UInt64.le_iff_toNat_le]
  exact Int.ofNat_le
theorem dec_b_eq (a b : UInt8) : decide (Int.ofNat a.toNat = Int.ofNat b.toNat) = decide (a = b) := by
  rw [Bool.eq_iff_iff]; simp only [decide_eq_true_eq]
  constructor
  · intro h; exact UInt8.toNat_inj.1 (Int.ofNat.inj h)
  · intro h; rw [h]
theorem dec_b_lt (a b : UInt8) : decide (Int.ofNat a.toNat < Int.ofNat b.toNat) = decide (a < b) := by
  rw [Bool.eq_iff_iff]; simp only [decide_eq_true_eq, UInt8.lt_iff_toNat_lt]
  exact Int.ofNat_lt
theorem dec_b_le (a b : UInt8) : decide (Int.ofNat a.toNat ≤ Int.ofNat b.toNat) = decide (a ≤ b) := by
  rw [Bool.eq_iff_iff]; simp only [decide_eq_true_eq, UInt8.le_iff_toNat_le]
  exact Int.ofNat_le

/-- What an operation's value stands for. -/
def VRes (c : Cx) (K : LV → Prop) (r : Option AV) : Prop := ∃ v a, r = some a ∧ AR c v a ∧ K v
theorem VRes.mk {v : LV} {a : AV} (h : AR c v a) (k : K v) : VRes c K (some a) := ⟨v, a, rfl, h, k⟩

theorem shl_u (a : UInt64) (s : Nat) : wrapA .u64 (.ofNat (Nat.mul a.toNat (Nat.pow 2 (minN s (IntKind.bits .u64))))) = Int.ofNat (shlU a s).toNat := by
  rw [wrapA_u64]
  have hm : minN s (IntKind.bits .u64) = min s 64 := by
    unfold minN
    by_cases h : s ≤ 64
    · rw [show Nat.ble s (IntKind.bits .u64) = true from Nat.ble_eq_true_of_le h]; simp [Nat.min_eq_left h]
    · have : Nat.ble s (IntKind.bits .u64) = false := by
        cases hb : Nat.ble s (IntKind.bits .u64) with
        | false => rfl
        | true => exact absurd (Nat.le_of_ble_eq_true hb) h
      rw [this]; simp only [IntKind.bits]; omega
  rw [hm]
  rw [shlU_eq, UInt64.toNat_ofNat']
  show (Int.ofNat (a.toNat * 2 ^ min s 64)) % 18446744073709551616 = Int.ofNat (a.toNat * 2 ^ s % 2 ^ 64)
  by_cases h : s ≤ 64
  · rw [Nat.min_eq_left h]
    rfl
  · rw [Nat.min_eq_right (by omega)]
    have e : 2 ^ s = 2 ^ 64 * 2 ^ (s - 64) := by rw [← Nat.pow_add]; congr 1; omega
    have : a.toNat * 2 ^ s % 2 ^ 64 = 0 := by
      rw [e, ← Nat.mul_assoc, Nat.mul_comm a.toNat, Nat.mul_assoc, Nat.mul_mod_right]
    rw [this]
    have h2 : a.toNat * 2 ^ 64 % 2 ^ 64 = 0 := Nat.mul_mod_left _ _
    show Int.ofNat (a.toNat * 2 ^ 64 % 2 ^ 64) = 0
    rw [h2]; rfl
theorem shr_u (a : UInt64) (s : Nat) : Int.ofNat (Nat.div a.toNat (Nat.pow 2 (minN s (IntKind.bits .u64)))) = Int.ofNat (shrU a s).toNat := by
  have hm : minN s (IntKind.bits .u64) = min s 64 := by
    unfold minN
    by_cases h : s ≤ 64
    · rw [show Nat.ble s (IntKind.bits .u64) = true from Nat.ble_eq_true_of_le h]; simp [Nat.min_eq_left h]
    · have : Nat.ble s (IntKind.bits .u64) = false := by
        cases hb : Nat.ble s (IntKind.bits .u64) with
        | false => rfl
        | true => exact absurd (Nat.le_of_ble_eq_true hb) h
      rw [this]; simp only [IntKind.bits]; omega
  rw [hm]
  rw [shrU_eq, UInt64.toNat_ofNat']
  have hlt := a.toNat_lt
  show Int.ofNat (a.toNat / 2 ^ min s 64) = Int.ofNat (a.toNat / 2 ^ s % 2 ^ 64)
  have h1 : a.toNat / 2 ^ s % 2 ^ 64 = a.toNat / 2 ^ s := Nat.mod_eq_of_lt (Nat.lt_of_le_of_lt (Nat.div_le_self _ _) hlt)
  rw [h1]
  by_cases h : s ≤ 64
  · rw [Nat.min_eq_left h]
  · rw [Nat.min_eq_right (by omega), Nat.div_eq_of_lt hlt]
    rw [Nat.div_eq_of_lt (Nat.lt_of_lt_of_le hlt (Nat.pow_le_pow_right (by omega) (by omega)))]

theorem uuL_ok {P : Program} {op : BinOp} {g : Bool} {t : TypeId} {a b : UInt64} (h : uuL op a b K) : VRes c K (binA P op g t (.int .u64 (Int.ofNat a.toNat)) (.int .u64 (Int.ofNat b.toNat))) := by
  have hk : kindEq .u64 .u64 = true := rfl
  have hla := a.toNat_lt
  have hlb := b.toNat_lt
  cases op <;> simp only [uuL, addU_eq, subU_eq, mulU_eq, divU_eq, modU_eq, andU_eq, orU_eq, xorU_eq, notU_eq] at h <;> simp only [binA, hk, arith, bitsA, shiftA, fullK_u64]
  case add => exact .mk (.u' (by rw [wrapA_u64, UInt64.toNat_add]; rfl)) h
  case sub =>
    refine .mk (.u' ?_) h
    rw [wrapA_u64, UInt64.toNat_sub]
    show (Int.ofNat a.toNat - Int.ofNat b.toNat) % _ = ((2 ^ 64 - b.toNat + a.toNat) % 2 ^ 64 : Nat)
    simp only [Int.ofNat_eq_natCast]
    omega
  case mul => exact .mk (.u' (by rw [wrapA_u64, UInt64.toNat_mul]; rfl)) h
  case quo =>
    obtain ⟨h1, h2⟩ := h
    have hz : isZ (Int.ofNat b.toNat) = false := by
      unfold isZ
      cases hb : Nat.beq b.toNat 0 with
      | false => exact hb
      | true => exact absurd (UInt64.toNat_inj.1 (Nat.eq_of_beq_eq_true hb)) h1
    simp only [hz]
    refine .mk (.u' ?_) h2
    rw [wrapA_u64, UInt64.toNat_div]
    show (Int.tdiv (Int.ofNat a.toNat) (Int.ofNat b.toNat)) % _ = Int.ofNat (a.toNat / b.toNat)
    have : Int.tdiv (Int.ofNat a.toNat) (Int.ofNat b.toNat) = Int.ofNat (a.toNat / b.toNat) := rfl
    rw [this]
    exact Int.emod_eq_of_lt (Int.natCast_nonneg _) (by have := Nat.div_le_self a.toNat b.toNat; simp only [Int.ofNat_eq_natCast]; omega)
  case rem =>
    obtain ⟨h1, h2⟩ := h
    have hz : isZ (Int.ofNat b.toNat) = false := by
      unfold isZ
      cases hb : Nat.beq b.toNat 0 with
      | false => exact hb
      | true => exact absurd (UInt64.toNat_inj.1 (Nat.eq_of_beq_eq_true hb)) h1
    simp only [hz]
    exact .mk (.u' (by rw [UInt64.toNat_mod]; rfl)) h2
  case and =>
    refine .mk (.u' ?_) h
    rw [wrapA_u64, UInt64.toNat_and]
    have : a.toNat &&& b.toNat < 2 ^ 64 := Nat.and_lt_two_pow _ hlb
    exact Int.emod_eq_of_lt (Int.natCast_nonneg _) (by show Int.ofNat (a.toNat &&& b.toNat) < _; simp only [Int.ofNat_eq_natCast]; omega)
  case or =>
    refine .mk (.u' ?_) h
    rw [wrapA_u64, UInt64.toNat_or]
    have : a.toNat ||| b.toNat < 2 ^ 64 := Nat.or_lt_two_pow hla hlb
    exact Int.emod_eq_of_lt (Int.natCast_nonneg _) (by show Int.ofNat (a.toNat ||| b.toNat) < _; simp only [Int.ofNat_eq_natCast]; omega)
  case xor =>
    refine .mk (.u' ?_) h
    rw [wrapA_u64, UInt64.toNat_xor]
    have : a.toNat ^^^ b.toNat < 2 ^ 64 := Nat.xor_lt_two_pow hla hlb
    exact Int.emod_eq_of_lt (Int.natCast_nonneg _) (by show Int.ofNat (a.toNat ^^^ b.toNat) < _; simp only [Int.ofNat_eq_natCast]; omega)
  case andNot =>
    refine .mk (.u' ?_) h
    have e : Nat.xor a.toNat (Nat.land a.toNat b.toNat) = (a &&& ~~~b).toNat := by
      show a.toNat ^^^ (a.toNat &&& b.toNat) = _
      rw [UInt64.toNat_and, UInt64.toNat_not]
      refine Nat.eq_of_testBit_eq fun i => ?_
      rw [Nat.testBit_xor, Nat.testBit_and, Nat.testBit_and]
      have : (UInt64.size - 1 - b.toNat).testBit i = (decide (i < 64) && !b.toNat.testBit i) := by
        have := Nat.testBit_two_pow_sub_succ hlb i
        rw [show UInt64.size - 1 - b.toNat = 2 ^ 64 - (b.toNat + 1) from by show 18446744073709551616 - 1 - b.toNat = _; omega, this]
      rw [this]
      by_cases hi : i < 64
      · simp [hi]; cases a.toNat.testBit i <;> cases b.toNat.testBit i <;> rfl
      · have : a.toNat.testBit i = false := Nat.testBit_lt_two_pow (Nat.lt_of_lt_of_le hla (Nat.pow_le_pow_right (by omega) (by omega)))
        simp [this]
    rw [e, wrapA_u64]
    exact Int.emod_eq_of_lt (Int.natCast_nonneg _) (by have := (a &&& ~~~b).toNat_lt; simp only [Int.ofNat_eq_natCast]; omega)
  case shl => exact .mk (.u' (shl_u a b.toNat)) h
  case shr => exact .mk (.u' (shr_u a b.toNat)) h
  case eql => exact .mk (.bool' (by rw [eqI_dec, dec_u_eq])) h
  case neq => exact .mk (.bool' (by rw [eqI_dec, dec_u_eq]; simp)) h
  case lss => exact .mk (.bool' (by rw [ltI_dec, dec_u_lt])) h
  case leq => exact .mk (.bool' (by rw [ltI_dec, not_lt_dec, dec_u_le])) h
  case gtr => exact .mk (.bool' (by rw [ltI_dec, dec_u_lt])) h
  case geq => exact .mk (.bool' (by rw [ltI_dec, not_lt_dec, dec_u_le])) h

theorem bbL_ok {P : Program} {op : BinOp} {g : Bool} {t : TypeId} {a b : UInt8} (h : bbL op a b K) : VRes c K (binA P op g t (.int .u8 (Int.ofNat a.toNat)) (.int .u8 (Int.ofNat b.toNat))) := by
  have hk : kindEq .u8 .u8 = true := rfl
  have hla := a.toNat_lt
  have hlb := b.toNat_lt
  cases op <;> simp only [bbL, addB_eq, subB_eq, andB_eq, orB_eq] at h <;> simp only [binA, hk, arith, bitsA, fullK_u8]
  case add => exact .mk (.b' (by rw [wrapA_u8, UInt8.toNat_add]; rfl)) h
  case sub =>
    refine .mk (.b' ?_) h
    rw [wrapA_u8, UInt8.toNat_sub]
    show (Int.ofNat a.toNat - Int.ofNat b.toNat) % _ = ((2 ^ 8 - b.toNat + a.toNat) % 2 ^ 8 : Nat)
    simp only [Int.ofNat_eq_natCast]
    omega
  case and =>
    refine .mk (.b' ?_) h
    rw [wrapA_u8, UInt8.toNat_and]
    have : a.toNat &&& b.toNat < 2 ^ 8 := Nat.and_lt_two_pow _ hlb
    exact Int.emod_eq_of_lt (Int.natCast_nonneg _) (by show Int.ofNat (a.toNat &&& b.toNat) < _; simp only [Int.ofNat_eq_natCast]; omega)
  case or =>
    refine .mk (.b' ?_) h
    rw [wrapA_u8, UInt8.toNat_or]
    have : a.toNat ||| b.toNat < 2 ^ 8 := Nat.or_lt_two_pow hla hlb
    exact Int.emod_eq_of_lt (Int.natCast_nonneg _) (by show Int.ofNat (a.toNat ||| b.toNat) < _; simp only [Int.ofNat_eq_natCast]; omega)
  case eql => exact .mk (.bool' (by rw [eqI_dec, dec_b_eq])) h
  case neq => exact .mk (.bool' (by rw [eqI_dec, dec_b_eq]; simp)) h
  case lss => exact .mk (.bool' (by rw [ltI_dec, dec_b_lt])) h
  case leq => exact .mk (.bool' (by rw [ltI_dec, not_lt_dec, dec_b_le])) h
  case gtr => exact .mk (.bool' (by rw [ltI_dec, dec_b_lt])) h
  case geq => exact .mk (.bool' (by rw [ltI_dec, not_lt_dec, dec_b_le])) h

theorem AR.i' {x n : Int} (h : n = x) : AR c (.i x) (.int .i64 n) := by subst h; exact .i n
theorem isZ_false {b : Int} (h : b ≠ 0) : isZ b = false := by
  unfold isZ
  split
  · rename_i n
    cases hb : Nat.beq n 0 with
    | false => rfl
    | true => exact absurd (by rw [Nat.eq_of_beq_eq_true hb]; rfl) h
  · rfl
theorem shift_i {P : Program} {g : Bool} {t : TypeId} {a : Int} {k : IntKind} {s : Int} (ha : 0 ≤ a) (h0 : 0 ≤ s) (h64 : s ≤ 64) :
    binA P .shl g t (.int .i64 a) (.int k s) = some (.int .i64 (wrapA .i64 (a * 2 ^ s.toNat))) ∧ binA P .shr g t (.int .i64 a) (.int k s) = some (.int .i64 (a / 2 ^ s.toNat)) := by
  obtain ⟨x, rfl⟩ := Int.eq_ofNat_of_zero_le ha
  obtain ⟨y, rfl⟩ := Int.eq_ofNat_of_zero_le h0
  have hm : minN y (IntKind.bits .i64) = y := by
    unfold minN
    rw [show Nat.ble y (IntKind.bits .i64) = true from Nat.ble_eq_true_of_le (by simp only [IntKind.bits]; omega)]
  constructor
  · show some (AV.int .i64 (wrapA .i64 (.ofNat (Nat.mul x (Nat.pow 2 (minN y (IntKind.bits .i64))))))) = _
    rw [hm]
    congr 3
  · show some (AV.int .i64 (.ofNat (Nat.div x (Nat.pow 2 (minN y (IntKind.bits .i64)))))) = _
    rw [hm]
    congr 2
theorem iiL_ok {P : Program} {op : BinOp} {g : Bool} {t : TypeId} {a b : Int} (h : iiL op a b K) : VRes c K (binA P op g t (.int .i64 a) (.int .i64 b)) := by
  have hk : kindEq .i64 .i64 = true := rfl
  cases op <;> simp only [iiL] at h
  case shl =>
    obtain ⟨h1, h2, h3, h4, h5⟩ := h
    rw [(shift_i h1 h2 h3).1, wrapA_i64 h4]
    exact .mk (.i _) h5
  case shr =>
    obtain ⟨h1, h2, h3, h5⟩ := h
    rw [(shift_i h1 h2 h3).2]
    exact .mk (.i _) h5
  all_goals simp only [binA, hk, arith]
  case and =>
    obtain ⟨h1, h2, h3, h4, h5⟩ := h
    obtain ⟨x, rfl⟩ := Int.eq_ofNat_of_zero_le h1
    obtain ⟨y, rfl⟩ := Int.eq_ofNat_of_zero_le h3
    have b1 : Nat.blt x (fullK .i64) = true := by unfold Nat.blt; exact Nat.ble_eq_true_of_le (by show x + 1 ≤ 2 * 9223372036854775808; omega)
    have b2 : Nat.blt y (fullK .i64) = true := by unfold Nat.blt; exact Nat.ble_eq_true_of_le (by show y + 1 ≤ 2 * 9223372036854775808; omega)
    have hx : x &&& y < 2 ^ 63 := Nat.and_lt_two_pow _ (by omega)
    show VRes c K (bitsA Nat.land .i64 (.ofNat x) (.ofNat y))
    simp only [bitsA, b1, b2]
    exact .mk (.i' (wrapA_i64 ⟨by simp only [Int.ofNat_eq_natCast]; omega, by simp only [Int.ofNat_eq_natCast]; exact Int.ofNat_lt.2 hx⟩)) h5
  case or =>
    obtain ⟨h1, h2, h3, h4, h5⟩ := h
    obtain ⟨x, rfl⟩ := Int.eq_ofNat_of_zero_le h1
    obtain ⟨y, rfl⟩ := Int.eq_ofNat_of_zero_le h3
    have b1 : Nat.blt x (fullK .i64) = true := by unfold Nat.blt; exact Nat.ble_eq_true_of_le (by show x + 1 ≤ 2 * 9223372036854775808; omega)
    have b2 : Nat.blt y (fullK .i64) = true := by unfold Nat.blt; exact Nat.ble_eq_true_of_le (by show y + 1 ≤ 2 * 9223372036854775808; omega)
    have hx : x ||| y < 2 ^ 63 := Nat.or_lt_two_pow (by omega) (by omega)
    show VRes c K (bitsA Nat.lor .i64 (.ofNat x) (.ofNat y))
    simp only [bitsA, b1, b2]
    exact .mk (.i' (wrapA_i64 ⟨by simp only [Int.ofNat_eq_natCast]; omega, by simp only [Int.ofNat_eq_natCast]; exact Int.ofNat_lt.2 hx⟩)) h5
  case add => exact .mk (.i' (wrapA_i64 h.1)) h.2
  case sub => exact .mk (.i' (wrapA_i64 h.1)) h.2
  case mul => exact .mk (.i' (wrapA_i64 h.1)) h.2
  case quo => rw [isZ_false h.1]; exact .mk (.i' (wrapA_i64 h.2.1)) h.2.2
  case rem => rw [isZ_false h.1]; exact .mk (.i _) h.2
  case eql => exact .mk (.bool' (by rw [eqI_dec])) h
  case neq => exact .mk (.bool' (by rw [eqI_dec]; simp)) h
  case lss => exact .mk (.bool' (by rw [ltI_dec])) h
  case leq => exact .mk (.bool' (by rw [ltI_dec, not_lt_dec])) h
  case gtr => exact .mk (.bool' (by rw [ltI_dec])) h
  case geq => exact .mk (.bool' (by rw [ltI_dec, not_lt_dec])) h
theorem kkL_ok {P : Program} {op : BinOp} {g : Bool} {t : TypeId} {k : IntKind} {a b : Int} (h : kkL op a b K) : VRes c K (binA P op g t (.int k a) (.int k b)) := by
  have hk : kindEq k k = true := by cases k <;> rfl
  cases op <;> simp only [kkL] at h <;> simp only [binA, hk, arith]
  case eql => exact .mk (.bool' (by rw [eqI_dec])) h
  case neq => exact .mk (.bool' (by rw [eqI_dec]; simp)) h
  case lss => exact .mk (.bool' (by rw [ltI_dec])) h
  case leq => exact .mk (.bool' (by rw [ltI_dec, not_lt_dec])) h
  case gtr => exact .mk (.bool' (by rw [ltI_dec])) h
  case geq => exact .mk (.bool' (by rw [ltI_dec, not_lt_dec])) h
theorem str_eq (a b : List UInt8) : (Nat.beq a.length b.length && Nat.beq (packL a) (packL b)) = decide (a = b) := by
  rw [Bool.eq_iff_iff]
  simp only [Bool.and_eq_true, decide_eq_true_eq]
  constructor
  · rintro ⟨h1, h2⟩
    exact packL_inj (Nat.eq_of_beq_eq_true h1) (Nat.eq_of_beq_eq_true h2)
  · intro h; subst h; simp
theorem AR.str' {l : List UInt8} {n m : Nat} (h1 : n = l.length) (h2 : m = packL l) : AR c (.str l) (.str n m) := by subst h1 h2; exact .str l
theorem ssL_ok {P : Program} {op : BinOp} {g : Bool} {t : TypeId} {a b : List UInt8} (h : ssL op a b K) : VRes c K (binA P op g t (.str a.length (packL a)) (.str b.length (packL b))) := by
  cases op <;> simp only [ssL] at h <;> simp only [binA, strOp]
  case add =>
    have hb : Nat.ble (Nat.add a.length b.length) lim = true := Nat.ble_eq_true_of_le h.1
    simp only [hb]
    refine .mk (.str' (by simp) ?_) h.2
    rw [packL_append]; rfl
  case eql => exact .mk (.bool' (str_eq a b)) h
  case neq => exact .mk (.bool' (by rw [str_eq]; simp)) h
theorem nilL_ok {P : Program} {op : BinOp} {g : Bool} {t : TypeId} {a b : AV} {r : Bool} (hb : binA P op g t a b = match op with | .eql => yesB (eqA P g t a b) | .neq => notB (eqA P g t a b) | _ => none) (h : nilL P op g t a b r K) : VRes c K (binA P op g t a b) := by
  rw [hb]
  cases op <;> simp only [nilL] at h
  case eql => rw [h.1]; exact .mk (.bool _) h.2
  case neq => rw [h.1]; exact .mk (.bool _) h.2
end Go.Sv
/- The logic's operations against the evaluator's. -/
namespace Go.Sv

noncomputable def ρA (E : Tr AV) : Env := fun t => getP (pathOf t) E
theorem EnvR_ρA (E : Tr AV) : EnvR E (ρA E) := fun _ _ => rfl
theorem Lx_ok {c : Cx} {ρ : LEnv} {E : Tr AV} (hE : EnvL c ρ E) {x : Lx} (h : x.ok = true) : AR c (x.ev ρ) (x.r.ev (ρA E)) := by
  cases x with
  | t i => exact hE i
  | c v => exact cst_AR c h
theorem Lxs_ok {c : Cx} {ρ : LEnv} {E : Tr AV} (hE : EnvL c ρ E) : ∀ {l : List Lx}, l.all Lx.ok = true → ARs c (l.map (·.ev ρ)) ((rxs l).map (·.ev (ρA E)))
  | [], _ => .nil
  | x :: l, h => by
    simp only [List.all_cons, Bool.and_eq_true] at h
    exact .cons (Lx_ok hE h.1) (Lxs_ok hE h.2)

def optOk : Option Lx → Bool
  | none => true
  | some x => x.ok
def LOp.ok : LOp → Bool
  | .move x => x.ok
  | .pick c a b => c.ok && a.ok && b.ok
  | .alloc l => l.all LV.scal
  | .box x => x.ok
  | .build cs ps => cs.all LV.scal && ps.all (·.2.2.ok)
  | .buildSl _ _ cs ps => cs.all LV.scal && ps.all (·.2.2.ok)
  | .load1 x => x.ok
  | .loadN _ x => x.ok
  | .store _ x y => x.ok && y.ok
  | .nilChk x => x.ok
  | .bin _ _ _ x y => x.ok && y.ok
  | .un _ x => x.ok
  | .cvInt _ x => x.ok
  | .cvStr x => x.ok
  | .cvSame x => x.ok
  | .cvBytes x => x.ok
  | .mkFunc _ a b => a.all Lx.ok && b.all Lx.ok
  | .mkSl _ z l c => z.all LV.scal && l.ok && c.ok
  | .slStr x lo hi => x.ok && optOk lo && optOk hi
  | .slSl _ x lo hi => x.ok && optOk lo && optOk hi
  | .slSl3 _ x lo hi mx => x.ok && optOk lo && optOk hi && mx.ok
  | .fieldAddr _ x => x.ok
  | .field _ _ _ x => x.ok
  | .ixAddr _ x i => x.ok && i.ok
  | .ixStr x i => x.ok && i.ok
  | .extract _ x => x.ok
  | .lenStr x => x.ok
  | .lenSl x => x.ok
  | .maxi _ x y => x.ok && y.ok
  | .max3 _ x y z => x.ok && y.ok && z.ok
  | .ixAddrArr _ _ x i => x.ok && i.ok
  | .ixArr _ _ _ x i => x.ok && i.ok
  | .lenArr _ x => x.ok
  | .appZ _ z s x => z.all LV.scal && s.ok && x.ok
  | .appG _ s x => s.ok && x.ok
  | .copy _ d x => d.ok && x.ok
  | .clear _ z x => z.all LV.scal && x.ok
  | .mkMap0 => true
  | .mkMap1 x => x.ok
  | .lookup _ z _ x i => z.cst && x.ok && i.ok
  | .mapUpd _ m k v => m.ok && k.ok && v.ok
  | .lenMap x => x.ok
  | .slArr _ _ x lo hi => x.ok && optOk lo && optOk hi
  | .callV f args => f.ok && args.all Lx.ok

def OpRes (P : Program) (c : Cx) (G : LHeap) (K : LV → LHeap → Prop) : OR → Prop
  | .no => False
  | .val v1 H' => ∃ c' v G', c'.H = H' ∧ HSim c' G' ∧ Step c G c' G' ∧ AR c' v v1 ∧ K v G'
  | .call t1 args1 => ∃ t args, TgtR c t t1 ∧ ARs c args args1 ∧ CallL P t args G K

section res
variable {P : Program} {c : Cx} {G : LHeap} {K : LV → LHeap → Prop}
theorem OpRes.same (hs : HSim c G) {v : LV} {a : AV} (h : AR c v a) (k : K v G) : OpRes P c G K (.val a c.H) := ⟨c, v, G, rfl, hs, .refl c G, h, k⟩
theorem OpRes.ret (hs : HSim c G) {r : Option AV} (h : VRes c (fun v => K v G) r) : OpRes P c G K (ret1 c.H r) := by
  obtain ⟨v, a, rfl, h1, h2⟩ := h
  exact .same hs h1 h2

/-- A new row or variable. -/
theorem newObj_ok (c : Cx) (l' : List AV) :
    ∃ H', newObj c.H l' = some (c.H.next, H') ∧ H'.next = c.H.next + 1 ∧ (∀ o, o < c.H.next → H'.get o = c.H.get o) ∧ H'.get c.H.next = some (.cells (ofListFrom l' 0 .e) l'.length 0 false) :=
  ⟨_, rfl, rfl, fun _ ho => Heap.get_push_ne _ _ ho, Heap.get_push_same _ _⟩
theorem newVarL_ok (hs : HSim c G) {l : List LV} {l' : List AV} (h : ARs c l l') (k : K (.ptr G.length 0) (G ++ [.cells l 0])) : OpRes P c G K (newVarA c.H l') := by
  obtain ⟨H', h1, h2, h3, h4⟩ := newObj_ok c l'
  unfold newVarA
  rw [h1]
  have hle : CxLe c ⟨c.hd ++ [(0, .ptr c.H.next 0 0)], c.Fz, H'⟩ := ⟨fun p k x e => ⟨k, x, by rw [List.getElem?_append_left (List.getElem?_eq_some_iff.1 e).1]; exact e, Nat.le_refl _, fun _ => rfl, fun _ => rfl⟩, fun o ho => ⟨ho, h3 o (hs.fz o ho)⟩⟩
  obtain ⟨q1, q2, _⟩ := hs.push (H' := H') (x := .ptr c.H.next 0 0) (ob := .cells l 0) (by omega) h3 (fun o e => by cases e; omega)
    ⟨rfl, c.H.next, _, l', rfl, by rw [h.length]; exact h4, by rw [h.length]; exact getCells_new l', h.mono hle⟩
  exact ⟨_, .ptr G.length 0, _, rfl, q1, q2, .ptr (by rw [← hs.len]; exact List.getElem?_concat_length), k⟩
theorem newSlL_ok (hs : HSim c G) {l : List LV} {l' : List AV} {len esz : Nat} {room : Option Nat} (h : ARs c l l') (hl : l.length = len * esz) (hr : ∀ r, room = some r → r = len) (k : K (.dy G.length 0) (G ++ [.dyn l len esz 0 0])) :
    OpRes P c G K (match newObj c.H l' with
      | some (o, H') => .val (.sl o 0 0 len esz room) H'
      | none => .no) := by
  obtain ⟨H', h1, h2, h3, h4⟩ := newObj_ok c l'
  rw [h1]
  have hle : CxLe c ⟨c.hd ++ [(0, .sl c.H.next 0 0 len esz room)], c.Fz, H'⟩ := ⟨fun p k x e => ⟨k, x, by rw [List.getElem?_append_left (List.getElem?_eq_some_iff.1 e).1]; exact e, Nat.le_refl _, fun _ => rfl, fun _ => rfl⟩, fun o ho => ⟨ho, h3 o (hs.fz o ho)⟩⟩
  have hll : l'.length = len * esz := by rw [← h.length]; exact hl
  obtain ⟨q1, q2, _⟩ := hs.push (H' := H') (x := .sl c.H.next 0 0 len esz room) (ob := .dyn l len esz 0 0) (by omega) h3 (fun o e => by cases e; omega)
    ⟨rfl, hl, .inr ⟨c.H.next, 0, room, _, l'.length, l', rfl, h4, by omega, by rw [← hll]; exact getCells_new l', h.mono hle, fun r e => by rw [hr r e]; exact ⟨hll, Nat.le_refl _⟩, fun _ => hll⟩⟩
  exact ⟨_, .dy G.length 0, _, rfl, q1, q2, .dy (h := .sl c.H.next 0 0 len esz room) (by rw [← hs.len]; exact List.getElem?_concat_length) (Nat.le_refl _) (fun _ => rfl) rfl, k⟩

theorem cells_at (hs : HSim c G) {p o st : Nat} {l : List LV} (hg : G[p]? = some (.cells l st)) (e : c.hd[p]? = some (0, .ptr o 0 0)) :
    ∃ t l', c.H.get o = some (.cells t l.length 0 false) ∧ getCells t 0 l.length = some l' ∧ ARs c l l' := by
  obtain ⟨_, o', t, l', he, r2, r3, r4⟩ := hs.obj p _ _ _ hg e
  injection he with he
  subst he
  exact ⟨t, l', r2, r3, r4⟩
theorem dyn_at (hs : HSim c G) {p k o v len len' esz esz' ver st : Nat} {room : Option Nat} {l : List LV} (hg : G[p]? = some (.dyn l len esz ver st)) (e : c.hd[p]? = some (k, .sl o v 0 len' esz' room)) :
    k = ver ∧ l.length = len * esz ∧ len' = len ∧ esz' = esz ∧ ∃ t clen l', c.H.get o = some (.cells t clen v false) ∧ len * esz ≤ clen ∧ getCells t 0 (len * esz) = some l' ∧ ARs c l l' ∧
      (∀ r, room = some r → clen = r * esz ∧ len ≤ r) ∧ (room = none → clen = len * esz) := by
  obtain ⟨r0, r1, r2⟩ := hs.obj p _ _ _ hg e
  rcases r2 with ⟨r2, _⟩ | ⟨o', v', room', t, clen, l', he, r3, r4, r5, r6, r7, r8⟩
  · cases r2
  · injection he with e1 e2 e3 e4 e5 e6
    subst e1 e2 e4 e5 e6
    exact ⟨r0, r1, rfl, rfl, t, clen, l', r3, r4, r5, r6, r7, r8⟩

/-- What stands at a pointer. -/
theorem readL_ok (hs : HSim c G) {x : LV} {a : AV} {n : Nat} {K : List LV → Prop} (hx : AR c x a) (h : readL G x n K) : ∃ o v i l' l, a = .ptr o v i ∧ readAt c.H o v i n = some l' ∧ ARs c l l' ∧ K l := by
  unfold readL at h
  split at h
  · rename_i p i
    split at h
    · rename_i l st hg
      obtain ⟨h1, h2⟩ := h
      cases hx with
      | @ptr _ _ o e =>
        obtain ⟨t, l', r2, r3, r4⟩ := cells_at hs hg e
        exact ⟨o, 0, i, _, _, rfl, readAt_of r2 r3 (Nat.le_refl _) h1, (r4.drop i).take n, h2⟩
    · exact h.elim
  · rename_i p k i
    split at h
    · rename_i l len esz ver st hg
      obtain ⟨hk0, h1, h2⟩ := h
      cases hx with
      | @dptr _ _ _ k' o v j hh e hk ha =>
        have hkv := (hs.obj p _ _ _ hg e).1
        obtain ⟨hj, len', esz', room', hhe⟩ := ha (by omega)
        subst hhe hj
        obtain ⟨_, r1, _, _, t, clen, l', r3, r4, r5, r6, _⟩ := dyn_at hs hg e
        exact ⟨o, v, j, _, _, rfl, readAt_of r3 r5 r4 (by omega), (r6.drop j).take n, h2⟩
    · exact h.elim
  · rename_i l i
    obtain ⟨h1, h2⟩ := h
    cases hx with
    | cptr hf hr hl => exact ⟨_, _, _, _, _, rfl, readAt_sub hr h1, (hl.drop i).take n, h2⟩
  · exact h.elim

theorem read1_ok (hs : HSim c G) {x : LV} {a : AV} {K : LV → Prop} (hx : AR c x a) (h : read1 G x K) : ∃ o v i w b, a = .ptr o v i ∧ readAt c.H o v i 1 = some [b] ∧ AR c w b ∧ K w := by
  have one : ∀ {l : List LV} {i : Nat} {v : LV}, l[i]? = some v → i + 1 ≤ l.length ∧ (l.drop i).take 1 = [v] := fun {l i v} e => by
    obtain ⟨h1, h2⟩ := List.getElem?_eq_some_iff.1 e
    refine ⟨h1, ?_⟩
    rw [List.drop_eq_getElem_cons h1, h2]
    simp
  have key : readL G x 1 (fun l => ∃ v, l = [v] ∧ K v) := by
    unfold read1 at h
    unfold readL
    split at h
    · split at h
      · obtain ⟨v, h1, h2⟩ := h
        exact ⟨(one h1).1, v, (one h1).2, h2⟩
      · exact h.elim
    · split at h
      · obtain ⟨h0, v, h1, h2⟩ := h
        exact ⟨h0, (one h1).1, v, (one h1).2, h2⟩
      · exact h.elim
    · obtain ⟨v, h1, h2⟩ := h
      exact ⟨(one h1).1, v, (one h1).2, h2⟩
    · exact h.elim
  obtain ⟨o, v, i, l', l, q1, q2, q3, w, rfl, q4⟩ := readL_ok hs hx key
  cases q3 with
  | cons e es => cases es; exact ⟨o, v, i, w, _, q1, q2, e, q4⟩

theorem writeAt_of {H : Heap} {o v i N clen : Nat} {t : Tr AV} {l r : List AV} (hg : H.get o = some (.cells t clen v false)) (_ : getCells t 0 N = some l) (hN : N ≤ clen) (hle : i + r.length ≤ N) :
    writeAt H o v i r = some (H.put o (.cells (ofListFrom r i t) clen v false)) := by
  unfold writeAt
  rw [hg]
  have hb : Nat.ble (Nat.add i r.length) clen = true := Nat.ble_eq_true_of_le (by show i + r.length ≤ clen; omega)
  simp only [Nat.beq_refl, hb]
theorem set_self {α : Type} : ∀ {l : List α} {p : Nat} {a : α}, l[p]? = some a → l.set p a = l
  | [], _, _, h => by simp at h
  | x :: l, 0, a, h => by simp at h; subst h; rfl
  | x :: l, p + 1, a, h => by simp at h; simp [set_self h]
theorem writeL_ok (hs : HSim c G) {x : LV} {a : AV} {l : List LV} {l' : List AV} {K : LHeap → Prop} (hx : AR c x a) (hl : ARs c l l') (h : writeL G x l K) :
    ∃ o v i H' c' G', a = .ptr o v i ∧ writeAt c.H o v i l' = some H' ∧ c'.H = H' ∧ HSim c' G' ∧ Step c G c' G' ∧ K G' := by
  have hlen := hl.length
  unfold writeL at h
  split at h
  · rename_i p i
    split at h
    · rename_i l0 st hg
      obtain ⟨h1, h2⟩ := h
      cases hx with
      | @ptr _ _ o e =>
        obtain ⟨t, l0', r2, r3, r4⟩ := cells_at hs hg e
        have hw := writeAt_of (i := i) (r := l') r2 r3 (Nat.le_refl _) (by omega)
        obtain ⟨q1, q2, _⟩ := hs.upd (k' := 0) (x' := .ptr o 0 0) (ob' := .cells (layLV l0 i l) (st + 1)) (H' := c.H.put o (.cells (ofListFrom l' i t) l0.length 0 false)) hg rfl e (Nat.le_refl _)
          (fun o' _ hne => Heap.get_put_ne _ _ (fun q => hne (by rw [q]; rfl))) (fun o' e' => by cases e'; exact ⟨.inl rfl, hs.lt o ⟨p, _, _, _, hg, rfl, e, rfl⟩⟩) (Nat.le_refl _) (fun _ => rfl) (fun _ => rfl) (.inl (Nat.lt_succ_self _))
          (fun hle => ⟨rfl, o, _, layAV l0' i l', rfl, by rw [layLV_length h1]; exact Heap.get_put_same _ _ _, by rw [layLV_length h1]; exact getCells_lay r3 (by omega), (r4.lay hl i).mono hle⟩)
        exact ⟨o, 0, i, _, _, _, rfl, hw, rfl, q1, q2, h2⟩
    · exact h.elim
  · rename_i p k i
    split at h
    · rename_i l0 len esz ver st hg
      obtain ⟨hk0, h1, h2⟩ := h
      cases hx with
      | @dptr _ _ _ k' o v j hh e hk ha =>
        have hkv := (hs.obj p _ _ _ hg e).1
        obtain ⟨hj, len', esz', room, hhe⟩ := ha (by omega)
        subst hhe hj
        obtain ⟨hk2, r1, hl2, he2, t, clen, l0', r3, r4, r5, r6, r7, r8⟩ := dyn_at hs hg e
        subst hl2 he2
        have hw := writeAt_of (i := j) (r := l') r3 r5 r4 (by omega)
        obtain ⟨q1, q2, _⟩ := hs.upd (k' := k') (x' := .sl o v 0 len' esz' room) (ob' := .dyn (layLV l0 j l) len' esz' ver (st + 1)) (H' := c.H.put o (.cells (ofListFrom l' j t) clen v false)) hg rfl e (Nat.le_refl _)
          (fun o' _ hne => Heap.get_put_ne _ _ (fun q => hne (by rw [q]; rfl))) (fun o' e' => by cases e'; exact ⟨.inl rfl, hs.lt _ ⟨p, _, _, _, hg, rfl, e, rfl⟩⟩) (Nat.le_refl _) (fun _ => rfl) (fun _ => rfl) (.inl (Nat.lt_succ_self _))
          (fun hle => ⟨hk2, by rw [layLV_length h1]; exact r1, .inr ⟨o, v, room, _, clen, layAV l0' j l', rfl, Heap.get_put_same _ _ _, r4, getCells_lay r5 (by omega), (r6.lay hl j).mono hle, r7, r8⟩⟩)
        exact ⟨o, v, j, _, _, _, rfl, hw, rfl, q1, q2, h2⟩
    · exact h.elim
  · exact h.elim

/-- A row's length. -/
theorem lenL_ok (hs : HSim c G) {x : LV} {a : AV} {K : Nat → Prop} (hx : AR c x a) (h : lenL G x K) : ∃ n, K n ∧ (a = .nilSl ∧ n = 0 ∨ a = .emp ∧ n = 0 ∨ ∃ o v i esz room, a = .sl o v i n esz room) := by
  unfold lenL at h
  split at h
  · cases hx; exact ⟨0, h, .inl ⟨rfl, rfl⟩⟩
  · rename_i p k
    split at h
    · rename_i l len esz ver st hg
      obtain ⟨hk0, h⟩ := h
      cases hx with
      | @dy _ _ k' hh _ e hk ha _ =>
        obtain ⟨r0, r1, r2⟩ := hs.obj p _ _ _ hg e
        have hha := ha (by omega)
        rcases r2 with ⟨r2, r3⟩ | ⟨o, v, room, t, clen, l', r2, _⟩
        · exact ⟨len, h, .inl ⟨hha.trans r2, r3⟩⟩
        · exact ⟨len, h, .inr (.inr ⟨_, _, _, _, _, hha.trans r2⟩)⟩
    · exact h.elim
  · rename_i p k lo len
    split at h
    · rename_i l len0 esz ver st hg
      obtain ⟨hk0, h⟩ := h
      cases hx with
      | @vw _ _ _ _ k' hh _ e hk ha _ _ =>
        obtain ⟨r0, r1, r2⟩ := hs.obj p _ _ _ hg e
        rcases ha (by omega) with ⟨r3, r4 | r4⟩ | ⟨o, v, len', esz', room, room', _, r4, _⟩
        · exact ⟨len, h, .inl ⟨r4, r3⟩⟩
        · exact ⟨len, h, .inr (.inl ⟨r4.1, r3⟩)⟩
        · exact ⟨len, h, .inr (.inr ⟨_, _, _, _, _, r4⟩)⟩
    · exact h.elim
  · cases hx with
    | lst => exact ⟨_, h, .inr (.inr ⟨_, _, _, _, _, rfl⟩)⟩
    | lstNil => exact ⟨0, h, .inl ⟨rfl, rfl⟩⟩
    | lstEmp => exact ⟨0, h, .inr (.inl ⟨rfl, rfl⟩)⟩
  · exact h.elim

theorem unpack_u8 (l : List UInt8) (c : Cx) : ARs c (l.map LV.b) ((unpackL l.length (packL l)).map fun (b : Nat) => AV.int .u8 (Int.ofNat b)) := by
  rw [unpack_pack]
  induction l with
  | nil => exact .nil
  | cons b l ih => exact .cons (.b b) ih

theorem rowL_ok (hs : HSim c G) {x : LV} {a : AV} {size : Nat} {K : Nat → List LV → Prop} (hx : AR c x a) (h : rowL G size x K) : ∃ n l l', takeA c.H size a = some (n, l') ∧ ARs c l l' ∧ l.length = n * size ∧ K n l := by
  have hsz : Nat.beq size size = true := Nat.beq_refl _
  unfold rowL at h
  split at h
  · cases hx; exact ⟨0, [], [], rfl, .nil, by simp, h⟩
  · rename_i p k
    split at h
    · rename_i l len esz ver st hg
      obtain ⟨hk0, rfl, h⟩ := h
      cases hx with
      | @dy _ _ k' hh _ e hk ha _ =>
        obtain ⟨r0, r1, r2⟩ := hs.obj p _ _ _ hg e
        have hha := ha (by omega)
        rcases r2 with ⟨r2, r3⟩ | ⟨o, v, room, t, clen, l', r2, r3, r4, r5, r6, _⟩
        · subst r3
          have : l = [] := List.eq_nil_of_length_eq_zero (by simpa using r1)
          subst this
          exact ⟨0, [], [], by rw [hha, r2]; rfl, .nil, by simp, h⟩
        · refine ⟨len, l, l', ?_, r6, r1, h⟩
          have hr := readAt_of (i := 0) (n := len * esz) r3 r5 r4 (by omega)
          have hl' : l'.length = len * esz := by rw [← r6.length]; exact r1
          rw [hha, r2]
          simp only [takeA, hsz]
          rw [show Nat.mul len esz = len * esz from rfl, hr]
          simp [List.take_of_length_le, hl']
    · exact h.elim
  · rename_i p k lo len
    split at h
    · rename_i l len0 esz ver st hg
      obtain ⟨hk0, rfl, h1, h⟩ := h
      cases hx with
      | @vw _ _ _ _ k' hh _ e hk ha _ _ =>
        have hkv := (hs.obj p _ _ _ hg e).1
        rcases ha (by omega) with ⟨r3, r4⟩ | ⟨o, v, len', esz', room, room', r3, r4, _⟩
        · subst r3
          refine ⟨0, _, [], ?_, by simpa using (ARs.nil (c := c)), by simp, h⟩
          rcases r4 with rfl | ⟨rfl, _⟩ <;> rfl
        · subst r3
          obtain ⟨_, q1, q2, q3, t, clen, l', q4, q5, q6, q7, _⟩ := dyn_at hs hg e
          subst q2 q3
          have hr := readAt_of (i := lo * esz') (n := len * esz') q4 q6 q5 (by omega)
          refine ⟨len, _, _, ?_, (q7.drop (lo * esz')).take (len * esz'), by simp; omega, h⟩
          rw [r4]
          simp only [takeA, hsz]
          rw [show Nat.mul len esz' = len * esz' from rfl, hr]
    · exact h.elim
  · rename_i l len esz
    obtain ⟨rfl, h⟩ := h
    cases hx with
    | lst hf hrm hlen hr hl =>
      refine ⟨len, l, _, ?_, hl, hlen, h⟩
      simp only [takeA, hsz]
      rw [show Nat.mul len esz = len * esz from rfl, hr]
    | lstNil => exact ⟨0, [], [], rfl, .nil, by simp, h⟩
    | lstEmp => exact ⟨0, [], [], rfl, .nil, by simp, h⟩
  · rename_i l
    obtain ⟨rfl, h⟩ := h
    cases hx
    refine ⟨l.length, _, _, ?_, unpack_u8 l c, by simp, h⟩
    simp [takeA]
  · exact h.elim
end res
end Go.Sv
/- What an operation comes to in the logic, the evaluator's operation comes to. -/
namespace Go.Sv

section res
variable {P : Program} {c : Cx} {G : LHeap} {K : LV → LHeap → Prop}

theorem pushNil_ok (hs : HSim c G) {size : Nat} (k : K (.dy G.length 0) (G ++ [.dyn [] 0 size 0 0])) : OpRes P c G K (.val .nilSl c.H) := by
  obtain ⟨q1, q2, _⟩ := hs.push (H' := c.H) (x := .nilSl) (ob := .dyn [] 0 size 0 0) (Nat.le_refl _) (fun _ _ => rfl) (fun o e => by cases e) ⟨rfl, by simp, .inl ⟨rfl, rfl⟩⟩
  exact ⟨⟨c.hd ++ [(0, .nilSl)], c.Fz, c.H⟩, .dy G.length 0, _, rfl, q1, q2, .dy (h := .nilSl) (by rw [← hs.len]; exact List.getElem?_concat_length) (Nat.le_refl _) (fun _ => rfl) rfl, k⟩

theorem appDy_ok (hs : HSim c G) {p k : Nat} {a : AV} {size n : Nat} {new : List LV} {new' : List AV} (ha : AR c (.dy p k) a) (hn : ARs c new new') (hl : new.length = n * size) (h : appL G size (.dy p k) n new K) : OpRes P c G K (appendA c.H size a n new') := by
  have hnl := hn.length
  unfold appL at h
  dsimp only at h
  split at h
  · rename_i l len esz ver st hg
    obtain ⟨hk0, ⟨rfl, hpos⟩, hlim, h⟩ := h
    have hpg : p < c.hd.length := by rw [hs.len]; exact (List.getElem?_eq_some_iff.1 hg).1
    cases ha with
    | @dy _ _ k' hh _ e hk haa hsl =>
      obtain ⟨r0, r1, r2⟩ := hs.obj p _ _ _ hg e
      have hha := haa (by omega)
      -- what is left to do where the object has its new handle
      have fin : ∀ {H' : Heap} {x' : AV}, c.H.next ≤ H'.next → (∀ o, o < c.H.next → idOf hh ≠ some o → H'.get o = c.H.get o) → (∀ o, idOf x' = some o → (idOf hh = some o ∨ c.H.next ≤ o) ∧ o < H'.next) → slish x' = true → fixd hh = false →
          (CxLe c ⟨c.hd.set p (k' + 1, x'), c.Fz, H'⟩ → ObR ⟨c.hd.set p (k' + 1, x'), c.Fz, H'⟩ (k' + 1) x' (.dyn (l ++ new) (len + n) esz (ver + 1) (st + 1))) → OpRes P c G K (.val x' H') := by
        intro H' x' h1 h2 h3 h4 h5 h6
        obtain ⟨q1, q2, _⟩ := hs.upd (k' := k' + 1) (x' := x') (ob' := .dyn (l ++ new) (len + n) esz (ver + 1) (st + 1)) (H' := H') hg rfl e h1 h2 h3 (Nat.le_succ _) (fun q => by omega) (fun q => by rw [h5] at q; cases q) (.inl (Nat.lt_succ_self _)) h6
        exact ⟨_, .dy p (ver + 1), _, rfl, q1, q2, .dy (k' := k' + 1) (h := x') (by dsimp only; rw [List.getElem?_set_self hpg]) (by omega) (fun _ => rfl) h4, h⟩
      have hcnt : (l ++ new).length = (len + n) * esz := by rw [List.length_append, r1, hl, Nat.add_mul]
      unfold appendA
      cases hb : Nat.beq n 0 with
      | true =>
        have hn0 := Nat.eq_of_beq_eq_true hb
        subst hn0
        have hnew : new = [] := List.eq_nil_of_length_eq_zero (by simpa using hl)
        subst hnew
        have hfix : fixd hh = false := by
          rcases r2 with ⟨r2, _⟩ | ⟨o, v, room, t, clen, l', r2, _⟩ <;> rw [r2] <;> rfl
        have hsh : slish hh = true := by rw [← hha]; exact hsl
        have key : OpRes P c G K (.val hh c.H) := by
          refine fin (Nat.le_refl _) (fun _ _ _ => rfl) (fun o e' => ⟨.inl e', hs.lt o ⟨p, _, _, _, hg, rfl, e, e'⟩⟩) hsh hfix (fun hle => ⟨by omega, hcnt, ?_⟩)
          simp only [List.append_nil, Nat.add_zero]
          rcases r2 with ⟨r2, r3⟩ | ⟨o, v, room, t, clen, l', r2, r3, r4, r5, r6, r7, r8⟩
          · exact .inl ⟨r2, r3⟩
          · exact .inr ⟨o, v, room, t, clen, l', r2, r3, r4, r5, r6.mono hle, r7, r8⟩
        rw [hha]
        rcases r2 with ⟨r2, r3⟩ | ⟨o, v, room, t, clen, l', r2, r3, r4, r5, r6, r7, r8⟩
        · rw [r2] at key ⊢; exact key
        · rw [r2] at key ⊢; exact key
      | false =>
        have hn0 : n ≠ 0 := fun q => by rw [q] at hb; cases hb
        rw [hha]
        rcases r2 with ⟨r2, r3⟩ | ⟨o, v, room, t, clen, l', r2, r3, r4, r5, r6, r7, r8⟩
        · -- nil so far
          subst r3
          have hlnil : l = [] := List.eq_nil_of_length_eq_zero (by simpa using r1)
          subst hlnil
          rw [r2]
          dsimp only [growA]
          obtain ⟨H', h1, h2, h3, h4⟩ := newObj_ok c new'
          rw [h1]
          dsimp only
          refine fin (by omega) (fun o ho _ => h3 o ho) (fun o e' => by cases e'; exact ⟨.inr (Nat.le_refl _), by omega⟩) rfl (by rw [r2]; rfl) (fun hle => ⟨by omega, hcnt, .inr ⟨c.H.next, 0, none, _, new'.length, new', ?_, h4, ?_, ?_, hn.mono hle, fun r q => (by cases q), fun _ => ?_⟩⟩)
          · simp
          · rw [Nat.zero_add]; omega
          · rw [Nat.zero_add, ← hl, hnl]; exact getCells_new new'
          · rw [Nat.zero_add]; omega
        · have hlt : o < c.H.next := hs.lt o ⟨p, _, _, _, hg, rfl, e, by rw [r2]; rfl⟩
          have hl' : l'.length = len * esz := by rw [← r6.length]; exact r1
          rw [r2]
          have hbe : (Nat.beq esz esz && Nat.ble len lim) = true := by rw [Nat.beq_refl, show Nat.ble len lim = true from Nat.ble_eq_true_of_le hlim]; rfl
          dsimp only
          rw [hbe]
          dsimp only
          have hid : idOf hh = some o := by rw [r2]; rfl
          have hfx : fixd hh = false := by rw [r2]; rfl
          have happ : getCells (ofListFrom new' (len * esz) t) 0 ((len + n) * esz) = some (l' ++ new') := by
            have := getCells_app (r := new') r5
            rwa [show len * esz + new'.length = (len + n) * esz from by rw [← hnl, hl, Nat.add_mul]] at this
          cases room with
          | some r =>
            obtain ⟨hcl, hlr⟩ := r7 r rfl
            dsimp only
            cases hfit : Nat.ble (Nat.add len n) r with
            | true =>
              have hfit' : len + n ≤ r := Nat.le_of_ble_eq_true hfit
              have hm : (len + n) * esz ≤ r * esz := Nat.mul_le_mul_right _ hfit'
              have hm2 : (len + n) * esz = len * esz + n * esz := Nat.add_mul _ _ _
              have hw : writeAt c.H o v (Nat.add 0 (Nat.mul len esz)) new' = some (c.H.put o (.cells (ofListFrom new' (len * esz) t) clen v false)) := by
                unfold writeAt
                rw [r3]
                have e1 : Nat.add 0 (Nat.mul len esz) = len * esz := Nat.zero_add _
                have hble : Nat.ble (Nat.add (len * esz) new'.length) clen = true := Nat.ble_eq_true_of_le (by show len * esz + new'.length ≤ clen; omega)
                rw [e1]
                simp only [Nat.beq_refl, hble]
              dsimp only
              rw [hw]
              dsimp only
              refine fin (by exact Nat.le_refl _) (fun o' _ hne => Heap.get_put_ne _ _ (fun q => hne (by rw [q]; exact hid))) (fun o' e' => by cases e'; exact ⟨.inl hid, hlt⟩) rfl hfx (fun hle => ⟨by omega, hcnt, .inr ⟨o, v, some r, _, clen, _, rfl, Heap.get_put_same _ _ _, by omega, happ, (r6.append hn).mono hle, fun r' q => by cases q; exact ⟨hcl, hfit'⟩, fun q => by cases q⟩⟩)
            | false =>
              have hr := readAt_of (i := 0) (n := len * esz) r3 r5 r4 (by omega)
              dsimp only
              rw [show Nat.mul len esz = len * esz from rfl, hr]
              dsimp only [growA]
              obtain ⟨H', h1, h2, h3, h4⟩ := newObj_ok c ((l'.drop 0).take (len * esz) ++ new')
              rw [h1]
              dsimp only
              have heq : (l'.drop 0).take (len * esz) = l' := by rw [List.drop_zero, List.take_of_length_le (by omega)]
              rw [heq] at h4
              have hsz : (l' ++ new').length = (len + n) * esz := by rw [List.length_append, hl', ← hnl, hl, Nat.add_mul]
              refine fin (by omega) (fun o' ho' _ => h3 o' ho') (fun o' e' => by cases e'; exact ⟨.inr (Nat.le_refl _), by omega⟩) rfl hfx (fun hle => ⟨by omega, hcnt, .inr ⟨c.H.next, 0, none, _, _, l' ++ new', rfl, h4, by omega, ?_, (r6.append hn).mono hle, fun r' q => (by cases q), fun _ => hsz⟩⟩)
              rw [← hsz]; exact getCells_new _
          | none =>
            have hcl := r8 rfl
            dsimp only
            rw [r3]
            dsimp only
            have hm2 : (len + n) * esz = len * esz + n * esz := Nat.add_mul _ _ _
            have hnpos : 0 < n * esz := Nat.mul_pos (by omega) hpos
            have hnf : Nat.ble (Nat.add 0 (Nat.mul (Nat.add len n) esz)) clen = false := by
              cases hq : Nat.ble (Nat.add 0 (Nat.mul (Nat.add len n) esz)) clen with
              | false => rfl
              | true =>
                have : 0 + (len + n) * esz ≤ clen := Nat.le_of_ble_eq_true hq
                omega
            have htip : Nat.beq (Nat.mul len esz) clen = true := by rw [hcl]; exact Nat.beq_refl _
            rw [Nat.beq_refl, hnf, htip, hcl]
            dsimp only
            have hsz : Nat.add (len * esz) new'.length = (len + n) * esz := by show len * esz + new'.length = _; rw [← hnl, hl, hm2]
            refine fin (by exact Nat.le_refl _) (fun o' _ hne => Heap.get_put_ne _ _ (fun q => hne (by rw [q]; exact hid))) (fun o' e' => by cases e'; exact ⟨.inl hid, hlt⟩) rfl hfx (fun hle => ⟨by omega, hcnt, .inr ⟨o, v + 1, none, _, _, _, rfl, Heap.get_put_same _ _ _, by rw [hsz]; exact Nat.le_refl _, happ, (r6.append hn).mono hle, fun r' q => (by cases q), fun _ => hsz⟩⟩)
  · exact h.elim

theorem appL_ok (hs : HSim c G) {s : LV} {a : AV} {size n : Nat} {new : List LV} {new' : List AV} (ha : AR c s a) (hn : ARs c new new') (hl : new.length = n * size) (h : appL G size s n new K) : OpRes P c G K (appendA c.H size a n new') := by
  have hnl := hn.length
  unfold appL at h
  split at h
  · -- nil
    cases ha
    unfold appendA
    cases hb : Nat.beq n 0 with
    | true =>
      have := Nat.eq_of_beq_eq_true hb
      subst this
      have : new = [] := List.eq_nil_of_length_eq_zero (by simpa using hl)
      subst this
      exact pushNil_ok hs h
    | false =>
      dsimp only [growA]
      exact newSlL_ok hs hn hl (fun r e => by cases e) h
  · rename_i p k
    exact appDy_ok hs ha hn hl (by unfold appL; exact h)
  · rename_i p k lo len
    split at h
    · rename_i l len0 esz ver st hg
      obtain ⟨hk0, ⟨rfl, rfl, hn0⟩, hlim, h⟩ := h
      have hbn : Nat.beq n 0 = false := by
        cases hb : Nat.beq n 0 with
        | false => rfl
        | true => have := Nat.eq_of_beq_eq_true hb; omega
      cases ha with
      | @vw _ _ _ _ k' hh _ e hk haa hsl hz =>
       split at h
       case isFalse hfit =>
        obtain ⟨hl0, hpos, h1, h2⟩ := h
        subst hl0
        have hkv := (hs.obj p _ _ _ hg e).1
        have hz' := hz (by omega) rfl
        rcases haa (by omega) with ⟨r3, r4⟩ | ⟨o, v, len', esz', room, room', r3, r4, r9⟩
        · subst r3
          rcases r4 with rfl | ⟨_, r5⟩
          · have hl0 : l = [] := List.eq_nil_of_length_eq_zero (by have := (hs.obj p _ _ _ hg e).2.1; simpa using this)
            subst hl0
            unfold appendA
            rw [hbn]
            dsimp only [growA]
            refine newSlL_ok hs hn hl (fun r e => by cases e) ?_
            simpa using h2
          · exact absurd rfl r5
        · have e2 := e
          rw [r3] at e2
          obtain ⟨_, w1, w2, w3, t, clen, l', w4, w5, w6, w7, _⟩ := dyn_at hs hg e2
          subst w2 w3
          rw [r3, r4] at hz'
          dsimp only [tied] at hz'
          by_cases hrr : room' = room
          · refine appDy_ok hs (p := p) (k := k) (.dy e hk (fun _ => by rw [r4, r3, hrr, Nat.zero_mul]) hsl) hn hl ?_
            unfold appL
            dsimp only
            rw [hg]
            exact ⟨hk0, ⟨rfl, hpos⟩, hlim, h1⟩
          · rcases hz' with hz' | ⟨r, rfl, hr⟩
            · exact absurd hz' hrr
            have hbe : (Nat.beq esz' esz' && Nat.ble len' lim) = true := by rw [Nat.beq_refl, show Nat.ble len' lim = true from Nat.ble_eq_true_of_le hlim]; rfl
            have hnf : Nat.ble (Nat.add len' n) r = false := by
              cases hq : Nat.ble (Nat.add len' n) r with
              | false => rfl
              | true => have : len' + n ≤ r := Nat.le_of_ble_eq_true hq; omega
            rw [r4]
            unfold appendA
            rw [hbn]
            dsimp only
            rw [hbe]
            dsimp only
            rw [hnf]
            dsimp only
            have hrd := readAt_of (i := 0) (n := len' * esz') w4 w6 w5 (by omega)
            rw [show Nat.mul len' esz' = len' * esz' from rfl, show 0 * esz' = 0 from Nat.zero_mul _, hrd]
            dsimp only [growA]
            have hadd := Nat.add_mul len' n esz'
            have htk : l.take (len' * esz') = l := List.take_of_length_le (by omega)
            refine newSlL_ok hs ((w7.take _).append hn) (by rw [List.length_append, List.length_take, hl]; show min (len' * esz') l.length + n * esz' = (len' + n) * esz'; omega) (fun r e => by cases e) ?_
            rw [htk]; exact h2
       case isTrue hfit =>
        obtain ⟨h1, h2⟩ := h
        have hkv := (hs.obj p _ _ _ hg e).1
        have hadd : (len + n) * esz = len * esz + n * esz := Nat.add_mul _ _ _
        rcases haa (by omega) with ⟨r3, r4⟩ | ⟨o, v, len', esz', room, room', r3, r4, r9⟩
        · subst r3
          rcases r4 with rfl | ⟨_, r5⟩
          · unfold appendA
            rw [hbn]
            dsimp only [growA]
            refine newSlL_ok hs hn hl (fun r e => by cases e) ?_
            simpa using h2
          · exact absurd rfl r5
        · have e2 := e
          rw [r3] at e2
          obtain ⟨_, w1, w2, w3, t, clen, l', w4, w5, w6, w7, _⟩ := dyn_at hs hg e2
          subst w2 w3
          rw [r4]
          have hw : writeL G (.dptr p k (len * esz')) new (fun G' => K (.vw p k 0 (len + n)) G') := by
            unfold writeL
            dsimp only
            rw [hg]
            exact ⟨hk0, by rw [hl, ← hadd]; exact hfit, h1⟩
          obtain ⟨o2, v2, i2, H', c', G', u1, u2, u3, u4, u5, u6⟩ := writeL_ok hs (a := .ptr o v (len * esz')) (.dptr e hk (fun _ => ⟨rfl, _, esz', room, r3⟩)) hn hw
          cases u1
          have inpl : (∀ r, room' = some r → len + n ≤ r) → OpRes P c G K (.val (.sl o v (0 * esz') (len + n) esz' room') H') := fun hr => by
            refine ⟨c', .vw p k 0 (len + n), G', u3, u4, u5, AR.mono u5.le (.vw e hk (fun _ => .inr ⟨o, v, _, esz', room, room', r3, rfl, hr⟩) rfl (fun q => by have := hz q; rw [r4] at this; exact this)), u6⟩
          have hbe : (Nat.beq esz' esz' && Nat.ble len lim) = true := by rw [Nat.beq_refl, show Nat.ble len lim = true from Nat.ble_eq_true_of_le hlim]; rfl
          have hix : Nat.add (0 * esz') (Nat.mul len esz') = len * esz' := by show 0 * esz' + len * esz' = _; omega
          have hle0 : len * esz' ≤ len' * esz' := by rw [← w1]; omega
          unfold appendA
          rw [hbn]
          dsimp only
          rw [hbe]
          dsimp only
          cases room' with
          | some r =>
            dsimp only
            cases hb : Nat.ble (Nat.add len n) r with
            | true =>
              dsimp only
              rw [hix, u2]
              exact inpl (fun r' e' => by cases e'; exact Nat.le_of_ble_eq_true hb)
            | false =>
              dsimp only
              have hr := readAt_of (i := 0) (n := len * esz') w4 w6 w5 (by omega)
              rw [show Nat.mul len esz' = len * esz' from rfl, show 0 * esz' = 0 from Nat.zero_mul _, hr]
              dsimp only [growA]
              refine newSlL_ok hs ((w7.take _).append hn) (by rw [List.length_append, List.length_take, hl]; show min (len * esz') l.length + n * esz' = (len + n) * esz'; omega) (fun r e => by cases e) h2
          | none =>
            dsimp only
            rw [w4]
            dsimp only
            rw [Nat.beq_refl, hix]
            have hb : Nat.ble (Nat.add (0 * esz') (Nat.mul (Nat.add len n) esz')) clen = true := Nat.ble_eq_true_of_le (by show 0 * esz' + (len + n) * esz' ≤ clen; omega)
            rw [hb]
            dsimp only
            rw [u2]
            exact inpl (fun r' e' => by cases e')
    · exact h.elim
  · exact h.elim
end res
end Go.Sv
/- What an operation comes to in the logic, the evaluator's operation comes to: the whole. -/
namespace Go.Sv

section res
variable {P : Program} {c : Cx} {G : LHeap} {K : LV → LHeap → Prop}

theorem toA_scal {v : LV} {a : AV} (hs : v.scal = true) (h : AR c v a) : a = toA v := by
  cases v <;> first | (cases hs; done) | (cases h; rfl)
theorem toAs_scal : ∀ {l : List LV} {r : List AV}, l.all LV.scal = true → ARs c l r → r = toAs l
  | [], _, _, .nil => rfl
  | v :: l, _, h, .cons e es => by
    simp only [List.all_cons, Bool.and_eq_true] at h
    rw [toAs, ← toA_scal h.1 e, ← toAs_scal h.2 es]
theorem binL_ok {op : BinOp} {g : Bool} {t : TypeId} {x y : LV} {a b : AV} {K : LV → Prop} (hx : AR c x a) (hy : AR c y b) (h : binL P op g t x y K) : VRes c K (binA P op g t a b) := by
  unfold binL at h
  split at h
  · cases hx; cases hy; exact uuL_ok h
  · cases hx; cases hy; exact iiL_ok h
  · cases hx; cases hy; exact bbL_ok h
  · rename_i u v
    cases hx; cases hy
    cases op <;> try exact h.elim
    · simp only [binA]; rw [h.1]; exact .mk (.bool _) h.2
    · simp only [binA]; rw [h.1]; exact .mk (.bool _) h.2
  · rename_i u s
    cases hx; cases hy
    cases op <;> try exact h.elim
    · obtain ⟨h1, h2⟩ := h
      obtain ⟨n, rfl⟩ := Int.eq_ofNat_of_zero_le h1
      exact .mk (.u' (shl_u u n)) h2
    · obtain ⟨h1, h2⟩ := h
      obtain ⟨n, rfl⟩ := Int.eq_ofNat_of_zero_le h1
      exact .mk (.u' (shr_u u n)) h2
  · rename_i u s
    cases hx; cases hy
    cases op <;> try exact h.elim
    · obtain ⟨h1, h2, h3, h4⟩ := h
      rw [(shift_i (s := Int.ofNat s.toNat) h1 (Int.natCast_nonneg _) (by show (s.toNat : Int) ≤ 64; omega)).1]
      exact .mk (.i' (wrapA_i64 h3)) h4
    · obtain ⟨h1, h2, h4⟩ := h
      rw [(shift_i (s := Int.ofNat s.toNat) h1 (Int.natCast_nonneg _) (by show (s.toNat : Int) ≤ 64; omega)).2]
      exact .mk (.i _) h4
  · obtain ⟨rfl, h⟩ := h
    cases hx; cases hy; exact kkL_ok h
  · cases hx; cases hy; exact ssL_ok h
  · cases hx; cases hy; exact nilL_ok (by cases op <;> rfl) h
  · cases hx; cases hy
    have : ∀ o v i, eqA P g t (.ptr o v i) .nilPtr = eqA P g t (.ptr 0 0 0) .nilPtr := fun o v i => by
      unfold eqA guardT eqT eqT1
      dsimp only
      cases P.underlying t with
      | none => rfl
      | some d => cases d <;> rfl
    refine nilL_ok (r := false) (by cases op <;> rfl) ?_
    cases op <;> simp only [nilL] at h ⊢ <;> (rw [this]; exact h)
  · cases hx; cases hy; exact nilL_ok (by cases op <;> rfl) h
  · cases hy
    obtain ⟨h1, h2⟩ := h
    have key : eqA P g t .emp .nilSl = some false ∧ ∀ o v i len esz room, eqA P g t (.sl o v i len esz room) .nilSl = some false := by
      unfold eqA guardT eqT eqT1 at h1 ⊢
      dsimp only at h1 ⊢
      cases hu : P.underlying t with
      | none => rw [hu] at h1; cases h1
      | some d => rw [hu] at h1; cases d <;> first | (cases h1; done) | exact ⟨rfl, fun _ _ _ _ _ _ => rfl⟩
    have fin : ∀ {a : AV} {b : Bool}, eqA P g t a .nilSl = some b → (binA P op g t a .nilSl = match op with | .eql => yesB (eqA P g t a .nilSl) | .neq => notB (eqA P g t a .nilSl) | _ => none) → (match op with | .eql => K (.bool b) | .neq => K (.bool !b) | _ => False) → VRes c K (binA P op g t a .nilSl) := by
      intro a b h3 h4 h5
      rw [h4, h3]
      cases op <;> first | exact h5.elim | exact .mk (.bool _) h5
    cases hx with
    | lst hf hrm hlen hr hl =>
      refine fin (key.2 _ _ _ _ _ _) (by cases op <;> rfl) ?_
      cases op <;> first | exact h2.elim | exact h2.1
    | lstNil =>
      refine fin h1 (by cases op <;> rfl) ?_
      cases op <;> first | exact h2.elim | exact h2.2 rfl
    | lstEmp =>
      refine fin key.1 (by cases op <;> rfl) ?_
      cases op <;> first | exact h2.elim | exact h2.1
  · cases hx with
    | agg h1 => cases hy with
      | agg h2 =>
        cases op <;> try exact h.elim
        · obtain ⟨b, s1, s2, e, k⟩ := h
          rw [toAs_scal s1 h1, toAs_scal s2 h2]
          simp only [binA]; rw [e]; exact .mk (.bool _) k
        · obtain ⟨b, s1, s2, e, k⟩ := h
          rw [toAs_scal s1 h1, toAs_scal s2 h2]
          simp only [binA]; rw [e]; exact .mk (.bool _) k
  · exact h.elim

theorem unL_ok {op : UnOp} {x : LV} {a : AV} {K : LV → Prop} (hx : AR c x a) (h : unL op x K) : VRes c K (unA op a) := by
  unfold unL at h
  simp only [subU_eq, notU_eq] at h
  split at h
  · cases hx; exact .mk (.bool _) h
  · cases hx
    refine .mk (.u' ?_) h
    rename_i u
    rw [wrapA_u64, UInt64.toNat_sub]
    show (0 - Int.ofNat u.toNat) % _ = ((2 ^ 64 - u.toNat + (0 : UInt64).toNat) % 2 ^ 64 : Nat)
    have := u.toNat_lt
    simp only [Int.ofNat_eq_natCast, UInt64.toNat_zero]
    omega
  · cases hx
    obtain ⟨h1, h2⟩ := h
    refine .mk (.i' ?_) h2
    have e : ∀ n : Int, Int.sub 0 n = -n := fun n => by show 0 - n = -n; omega
    rw [e]; exact wrapA_i64 h1
  · cases hx
    refine .mk (.u' ?_) h
    rename_i u
    have hu := u.toNat_lt
    show IntKind.wrap .u64 (BitVec.ofInt 64 (IntKind.max .u64) ^^^ BitVec.ofInt 64 (Int.ofNat u.toNat)).toNat = _
    have e1 : BitVec.ofInt 64 (IntKind.max .u64) = BitVec.allOnes 64 := by decide
    have e2 : BitVec.ofInt 64 (Int.ofNat u.toNat) = u.toBitVec := by
      apply BitVec.eq_of_toNat_eq
      simp
    rw [e1, e2, BitVec.allOnes_xor]
    show ((~~~u.toBitVec).toNat : Int) % 18446744073709551616 = Int.ofNat (~~~u).toNat
    have : (~~~u).toNat = (~~~u.toBitVec).toNat := rfl
    rw [this]
    exact Int.emod_eq_of_lt (Int.natCast_nonneg _) (by have := (~~~u.toBitVec).isLt; omega)
  · exact h.elim

theorem u64_ofInt (n : Int) : n % 18446744073709551616 = Int.ofNat (UInt64.ofInt n).toNat := by
  unfold UInt64.ofInt
  rw [UInt64.toNat_ofNat']
  simp only [Int.ofNat_eq_natCast]
  omega
theorem u8_ofInt (n : Int) : n % 256 = Int.ofNat (UInt8.ofInt n).toNat := by
  unfold UInt8.ofInt
  rw [UInt8.toNat_ofNat']
  simp only [Int.ofNat_eq_natCast]
  omega
theorem cvL_ok {k : IntKind} {x : LV} {a : AV} {K : LV → Prop} (hx : AR c x a) (h : cvL k x K) : ∃ k' n, a = .int k' n ∧ ∃ v, AR c v (.int k (wrapA k n)) ∧ K v := by
  unfold cvL at h
  simp only [iU_eq, bU_eq, uB_eq, iB_eq] at h
  split at h
  · cases hx
    rename_i u
    refine ⟨_, _, rfl, _, .u' ?_, h⟩
    rw [wrapA_u64]
    exact Int.emod_eq_of_lt (Int.natCast_nonneg _) (by have := u.toNat_lt; simp only [Int.ofNat_eq_natCast]; omega)
  · cases hx
    refine ⟨_, _, rfl, _, .u' ?_, h⟩
    rename_i n
    rw [wrapA_u64]
    exact u64_ofInt n
  · cases hx
    rename_i u
    refine ⟨_, _, rfl, _, .u' ?_, h⟩
    rw [wrapA_u64]
    have := u.toNat_lt
    rw [UInt64.toNat_ofNat']
    show Int.ofNat u.toNat % 18446744073709551616 = Int.ofNat (u.toNat % 2 ^ 64)
    simp only [Int.ofNat_eq_natCast]
    omega
  · cases hx
    rename_i u
    exact ⟨_, _, rfl, _, .i' (wrapA_i64 ⟨by simp only [Int.ofNat_eq_natCast]; omega, by simp only [Int.ofNat_eq_natCast]; omega⟩), h.2⟩
  · cases hx
    exact ⟨_, _, rfl, _, .i' (wrapA_i64 h.1), h.2⟩
  · cases hx
    rename_i u
    have := u.toNat_lt
    exact ⟨_, _, rfl, _, .i' (wrapA_i64 ⟨by simp only [Int.ofNat_eq_natCast]; omega, by simp only [Int.ofNat_eq_natCast]; omega⟩), h⟩
  · cases hx
    rename_i u
    refine ⟨_, _, rfl, _, .b' ?_, h⟩
    rw [wrapA_u8, UInt8.toNat_ofNat']
    show Int.ofNat u.toNat % 256 = Int.ofNat (u.toNat % 2 ^ 8)
    simp only [Int.ofNat_eq_natCast]
    omega
  · cases hx
    refine ⟨_, _, rfl, _, .b' ?_, h⟩
    rename_i n
    rw [wrapA_u8]
    exact u8_ofInt n
  · cases hx
    rename_i u
    refine ⟨_, _, rfl, _, .b' ?_, h⟩
    rw [wrapA_u8]
    exact Int.emod_eq_of_lt (Int.natCast_nonneg _) (by have := u.toNat_lt; simp only [Int.ofNat_eq_natCast]; omega)
  · cases hx
    refine ⟨_, _, rfl, _, .b' ?_, h⟩
    rename_i n
    rw [wrapA_u8]
    exact u8_ofInt n
  · cases hx
    refine ⟨_, _, rfl, _, ?_, h⟩
    rename_i n
    have e : wrapA .i32 n = w32 n := by
      rw [wrapA_spec]
      show (if (true && decide (n % 4294967296 ≥ 2147483648)) = true then n % 4294967296 - 4294967296 else n % 4294967296) = w32 n
      simp only [Bool.true_and, decide_eq_true_eq, w32]
      split <;> omega
    rw [e]
    exact .int .i32 _
  · cases hx
    exact ⟨_, _, rfl, _, .i' (wrapA_i64 h.1), h.2⟩
  · exact h.elim

theorem layL_eq : ∀ (r l : List AV) (i : Nat), i + r.length ≤ l.length → layL l i r = layAV l i r
  | [], l, i, h => by
    simp only [layL, layAV, List.length_nil, Nat.add_zero, List.append_nil, List.take_append_drop]
  | a :: r, l, i, h => by
    simp only [List.length_cons] at h
    rw [layL, layL_eq r (l.set i a) (i + 1) (by simp; omega)]
    refine List.ext_getElem? (fun j => ?_)
    rw [layAV_get (by simp; omega), layAV_get (by simp; omega)]
    simp only [List.length_cons]
    by_cases h1 : i + 1 ≤ j ∧ j < i + 1 + r.length
    · rw [if_pos h1, if_pos (by omega), show j - i = (j - (i + 1)) + 1 from by omega, List.getElem?_cons_succ]
    · rw [if_neg h1]
      by_cases h2 : j = i
      · subst h2
        rw [if_pos (by omega), List.getElem?_set_self (by omega)]
        simp
      · rw [if_neg (by omega), List.getElem?_set_ne (Ne.symm h2)]

theorem fillL_ok {ρ : LEnv} {E : Tr AV} (hE : EnvL c ρ E) : ∀ {ps : List (Nat × Nat × Lx)} {cs l : List LV} {cs' : List AV}, ps.all (·.2.2.ok) = true → ARs c cs cs' → fillL ρ cs ps = some l → ∃ l', fillR (ρA E) cs' (rps ps) = some l' ∧ ARs c l l'
  | [], cs, l, cs', _, h, e => by
    simp only [fillL, Option.some.injEq] at e
    subst e
    exact ⟨cs', rfl, h⟩
  | (off, size, x) :: ps, cs, l, cs', hok, h, e => by
    simp only [List.all_cons, Bool.and_eq_true] at hok
    simp only [fillL] at e
    split at e
    · cases e
    · rename_i r hr
      split at e
      · rename_i hc
        obtain ⟨h1, h2⟩ := hc
        obtain ⟨r', q1, q2⟩ := (Lx_ok hE hok.1).cells hr
        have hrl := q2.length
        have hcl := h.length
        obtain ⟨l', q3, q4⟩ := fillL_ok hE hok.2 (h.lay q2 off) e
        refine ⟨l', ?_, q4⟩
        simp only [rps, fillR, q1]
        have b1 : Nat.beq r'.length size = true := by rw [← hrl, h1]; exact Nat.beq_refl _
        have b2 : Nat.ble (Nat.add off size) cs'.length = true := Nat.ble_eq_true_of_le (by show off + size ≤ _; omega)
        simp only [b1, b2]
        rw [layL_eq _ _ _ (by omega)]
        exact q3
      · cases e

theorem bndL_ok {ρ : LEnv} {E : Tr AV} (hE : EnvL c ρ E) {d : Nat} {x : Option Lx} (hok : optOk x = true) {K : Nat → Prop} (h : bndL ρ d x K) : ∃ r n, optR (ρA E) (x.map Lx.r) = some r ∧ r.getD d = n ∧ K n := by
  cases x with
  | none => exact ⟨none, d, rfl, rfl, h⟩
  | some x =>
    simp only [bndL] at h
    have hx := Lx_ok hE (show x.ok = true from hok)
    simp only [Option.map_some, optR]
    split at h
    · rename_i n hn
      obtain ⟨h1, h2⟩ := h
      rw [hn] at hx
      generalize x.r.ev (ρA E) = a at hx
      cases hx
      obtain ⟨m, rfl⟩ := Int.eq_ofNat_of_zero_le h1
      exact ⟨some m, m, rfl, rfl, h2⟩
    · rename_i n hn
      rw [hn] at hx
      generalize x.r.ev (ρA E) = a at hx
      cases hx
      exact ⟨some n.toNat, n.toNat, rfl, rfl, h⟩
    · exact h.elim
end res
end Go.Sv
/- What an operation comes to in the logic: maps, and rows cut out of an array that nobody turns any more. -/
namespace Go.Sv

section res
variable {P : Program} {c : Cx} {G : LHeap} {K : LV → LHeap → Prop}

theorem keyL_ok {d : TypeDesc} {k k' : LV} {a a' : AV} {b : Bool} (h1 : AR c k a) (h2 : AR c k' a') (h : keyL d k k' = some b) : keyEq d a a' = some b := by
  unfold keyL at h
  split at h
  · cases h1; cases h2
    cases h
    simp only [keyEq, show kindEq .i64 .i64 = true from rfl, eqI_dec]
  · cases h1; cases h2
    cases h
    simp only [keyEq, show kindEq .u64 .u64 = true from rfl, eqI_dec, dec_u_eq]
  · cases h1; cases h2
    cases h
    simp only [keyEq, str_eq]
  · cases h

theorem findL_ok {d : TypeDesc} {k : LV} {a : AV} (hk : AR c k a) {K : Option LV → Prop} : ∀ {es : List (LV × LV × Nat)} {es' : List (AV × AV × Nat)}, MRs c es es' → findL d k K es → (findA d a es' = some none ∧ K none) ∨ ∃ v b, findA d a es' = some (some b) ∧ AR c v b ∧ K (some v)
  | _, _, .nil, h => .inl ⟨rfl, h⟩
  | (k1, v1, n) :: l, _, .cons hk1 hv1 hr, h => by
    simp only [findL] at h
    split at h
    · rename_i b hb
      have := keyL_ok hk hk1 hb
      simp only [findA, this]
      cases b with
      | true => exact .inr ⟨v1, _, rfl, hv1, h.1 rfl⟩
      | false => exact findL_ok hk hr (h.2 rfl)
    · exact h.elim

theorem putL_ok {d : TypeDesc} {k v : LV} {a b : AV} {ck : Nat} (hk : AR c k a) (hv : AR c v b) : ∀ {es : List (LV × LV × Nat)} {es' : List (AV × AV × Nat)} {K : List (LV × LV × Nat) → Bool → Prop}, MRs c es es' → putL d k v ck K es → ∃ r r' new, setMapA d a b ck es' = some (r', new) ∧ MRs c r r' ∧ K r new
  | _, _, K, .nil, h => ⟨_, _, true, rfl, .cons hk hv .nil, h⟩
  | (k1, v1, n) :: l, _, K, .cons hk1 hv1 hr, h => by
    simp only [putL] at h
    split at h
    · rename_i t ht
      have := keyL_ok hk hk1 ht
      simp only [setMapA, this]
      cases t with
      | true => exact ⟨_, _, false, rfl, .cons hk hv hr, h.1 rfl⟩
      | false =>
        obtain ⟨r, r', new, q1, q2, q3⟩ := putL_ok (K := fun r new => K ((k1, v1, n) :: r) new) hk hv hr (h.2 rfl)
        exact ⟨_, _, new, by rw [q1], .cons hk1 hv1 q2, q3⟩
    · exact h.elim

theorem mapL_ok (hs : HSim c G) {x : LV} {a : AV} (hx : AR c x a) {K : List (LV × LV × Nat) → Prop} (h : mapL G x K) : ∃ es es', mapOf c.H a = some es' ∧ MRs c es es' ∧ K es ∧ (a = .nilMap ∧ es' = [] ∨ ∃ o ck, a = .map o ∧ c.H.get o = some (.map es' ck)) := by
  unfold mapL at h
  split at h
  · cases hx
    exact ⟨[], [], rfl, .nil, h, .inl ⟨rfl, rfl⟩⟩
  · rename_i p
    split at h
    · rename_i es ck st hg
      cases hx with
      | @map _ o e =>
        obtain ⟨_, o', es', he, r2, r3⟩ := hs.obj p _ _ _ hg e
        injection he with he
        subst he
        refine ⟨es, es', ?_, r3, h, .inr ⟨o, ck, rfl, r2⟩⟩
        simp only [mapOf, r2]
    · exact h.elim
  · exact h.elim

theorem pushMapL_ok (hs : HSim c G) (k : K (.map G.length) (G ++ [.map [] 0 0])) : OpRes P c G K (pushMap c.H) := by
  unfold pushMap
  obtain ⟨q1, q2, _⟩ := hs.push (H' := c.H.push (.map [] 0)) (x := .map c.H.next) (ob := .map [] 0 0) (by show c.H.next ≤ c.H.next + 1; omega) (fun o ho => Heap.get_push_ne _ _ ho) (fun o e => by cases e; exact ⟨Nat.le_refl _, by show c.H.next < c.H.next + 1; omega⟩)
    ⟨rfl, c.H.next, [], rfl, Heap.get_push_same _ _, .nil⟩
  exact ⟨_, .map G.length, _, rfl, q1, q2, .map (by rw [← hs.len]; exact List.getElem?_concat_length), k⟩

theorem mapUpd_ok (hs : HSim c G) {d : TypeDesc} {m k v : LV} {ma ka va : AV} (hm : AR c m ma) (hk : AR c k ka) (hv : AR c v va) (h : updL' G d m k v fun G' => K .any G') :
    OpRes P c G K (match (generalizing := false) ma with
      | .map o => match c.H.get o with
        | some (.map es clock) => match setMapA d ka va clock es with
          | some (es', true) => .val undefA (c.H.put o (.map es' (Nat.add clock 1)))
          | some (es', false) => .val undefA (c.H.put o (.map es' clock))
          | none => .no
        | _ => .no
      | _ => .no) := by
  unfold updL' at h
  split at h
  · rename_i p
    split at h
    · rename_i es ck st hg
      cases hm with
      | @map _ o e =>
        obtain ⟨_, o', es', he, r2, r3⟩ := hs.obj p _ _ _ hg e
        injection he with he
        subst he
        obtain ⟨r, r', new, q1, q2, q3⟩ := putL_ok hk hv r3 h
        have hlt : o < c.H.next := hs.lt o ⟨p, _, _, _, hg, rfl, e, rfl⟩
        have fin : ∀ ck', K .any (G.set p (.map r ck' (st + 1))) → OpRes P c G K (.val undefA (c.H.put o (.map r' ck'))) := by
          intro ck' kk
          obtain ⟨u1, u2, u3⟩ := hs.upd (k' := 0) (x' := .map o) (ob' := .map r ck' (st + 1)) (H' := c.H.put o (.map r' ck')) hg rfl e (Nat.le_refl _) (fun o' _ hne => Heap.get_put_ne _ _ (fun q => hne (by rw [q]; rfl))) (fun o' e' => by cases e'; exact ⟨.inl rfl, hlt⟩) (Nat.le_refl _) (fun _ => rfl) (fun _ => rfl) (.inl (Nat.lt_succ_self _))
            (fun hle => ⟨rfl, o, r', rfl, Heap.get_put_same _ _ _, q2.mono hle⟩)
          exact ⟨_, .any, _, rfl, u1, u2, .any _, kk⟩
        simp only [r2, q1]
        cases new with
        | true => exact fin _ q3
        | false => exact fin _ q3
    · exact h.elim
  · exact h.elim

/-- An object is handed over for good: nobody turns it any more. -/
theorem HSim.freeze (hs : HSim c G) {p k o st : Nat} {x : AV} {ob : LObj} (hG : G[p]? = some ob) (hl : ob.live = true) (hst : ob.st < st) (hp : c.hd[p]? = some (k, x)) (ho : idOf x = some o) :
    HSim ⟨c.hd, fun q => c.Fz q ∨ q = o, c.H⟩ (G.set p (.dead st)) ∧ Step c G ⟨c.hd, fun q => c.Fz q ∨ q = o, c.H⟩ (G.set p (.dead st)) := by
  have hpg : p < G.length := (List.getElem?_eq_some_iff.1 hG).1
  have hle : CxLe c ⟨c.hd, fun q => c.Fz q ∨ q = o, c.H⟩ := ⟨fun p k h e => ⟨k, h, e, Nat.le_refl _, fun _ => rfl, fun _ => rfl⟩, fun q hq => ⟨.inl hq, rfl⟩⟩
  have hino : Own c G o := ⟨p, ob, k, x, hG, hl, hp, ho⟩
  have hinv : ∀ {q : Nat} {ob1 : LObj}, (G.set p (.dead st))[q]? = some ob1 → (q = p ∧ ob1 = .dead st) ∨ (q ≠ p ∧ G[q]? = some ob1) := by
    intro q ob1 e
    by_cases hq : q = p
    · subst hq
      rw [List.getElem?_set_self hpg] at e
      cases e; exact .inl ⟨rfl, rfl⟩
    · rw [List.getElem?_set_ne (Ne.symm hq)] at e
      exact .inr ⟨hq, e⟩
  have hown : ∀ q, Own ⟨c.hd, fun q => c.Fz q ∨ q = o, c.H⟩ (G.set p (.dead st)) q → Own c G q ∧ q ≠ o := by
    rintro q ⟨p1, ob1, k1, h1, e1, e2, e3, e4⟩
    rcases hinv e1 with ⟨_, rfl⟩ | ⟨hne, e1⟩
    · cases e2
    · refine ⟨⟨p1, ob1, k1, h1, e1, e2, e3, e4⟩, fun hq => hne ?_⟩
      subst hq
      exact hs.excl p1 p ob1 ob k1 h1 k x q e1 hG e2 hl e3 hp e4 ho
  refine ⟨⟨by simp [hs.len], fun q hq => hq.elim (hs.fz q) (fun e => by rw [e]; exact hs.lt o hino), fun q hq => hs.lt q (hown q hq).1, fun q hq hf => hf.elim (hs.sep q (hown q hq).1) (hown q hq).2, fun q ob1 k1 h1 e1 e2 => ?_, ?_⟩, ⟨hle, Nat.le_refl _, fun _ _ _ => rfl, fun q hq => .inl (hown q hq).1, fun q hq => hq.elim .inl (fun e => .inr (.inl (by rw [e]; exact hino))), fun q ob1 ob2 e1 e2 => ?_, fun q ob1 ob2 k1 h1 o1 e1 e2 e3 e4 e5 e6 => ?_⟩⟩
  · rcases hinv e1 with ⟨_, rfl⟩ | ⟨_, e1⟩
    · trivial
    · by_cases hl1 : ob1.live = true
      · exact (hs.obj q ob1 k1 h1 e1 e2).mono hle (fun _ _ => rfl)
      · cases ob1 <;> first | exact absurd rfl hl1 | trivial
  · intro q r ob1 ob2 k1 h1 k2 h2 o1 e1 e2 e3 e4 e5 e6 e7 e8
    rcases hinv e1 with ⟨_, rfl⟩ | ⟨_, e1⟩
    · cases e3
    · rcases hinv e2 with ⟨_, rfl⟩ | ⟨_, e2⟩
      · cases e4
      · exact hs.excl q r ob1 ob2 k1 h1 k2 h2 o1 e1 e2 e3 e4 e5 e6 e7 e8
  · rcases hinv e2 with ⟨rfl, rfl⟩ | ⟨_, e2⟩
    · rw [hG] at e1; cases e1
      exact Nat.le_of_lt hst
    · rw [e1] at e2; cases e2
      exact Nat.le_refl _
  · rcases hinv e2 with ⟨rfl, rfl⟩ | ⟨_, e2⟩
    · rw [hG] at e1; cases e1
      have : ob.st = st := e6
      omega
    · rw [e1] at e2; cases e2
      exact ⟨rfl, rfl, rfl⟩
end res
end Go.Sv
