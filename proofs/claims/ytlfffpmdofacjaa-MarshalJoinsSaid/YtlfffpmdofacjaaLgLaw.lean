/- From the logic to a statement about whatever is handed in. -/
import Derived.Test.YtlfffpmdofacjaaLgIn
import Derived.WalkKit
import Derived.ProofKit
import Derived.WideKeyArgs
import Derived.ChangeCalls
namespace Go.Sv
open Go.RowKit Go.ChangeShapes Go.WideShapes Go.ChangeAt

def Sh.arg : (s : Sh) → s.T → LV
  | .st l, x => .agg (l.enc x)
  | .bool, x => .bool x
  | .u, x => .u x
  | .b, x => .b x
  | .i, x => .i x.1
  | .k kk, x => .int kk x
  | .str, x => .str x.1
  | .sl s, x => .lst (x.1.flatMap s.enc) x.1.length s.n
def ShL.args : (l : ShL) → l.T → List LV
  | .nil, _ => []
  | .cons s l, x => s.arg x.1 :: l.args x.2

section law
variable {H : Type} {enc : TypeId × Value → H} {P : Program}

theorem args_got {W : World} {d base : Nat} : ∀ {ts : List TypeId} {l : ShL} {args : List Value} {ds : List (DataW H)} {ps : List MemPlace} {C : CM} {Hp : Heap}, shsOf P d ts = some l → DataW.TrodAll enc P W 0 (fun _ => true) true ts args ds ps → W.noneFrozen ps →
    (∀ (j : Nat) (t : TypeId) (v : Value), ts[j]? = some t → args[j]? = some v → Value.okWide P W .any base t v) → Rel W C Hp W → ∃ C' H' as, ∃ y : l.T, C.le C' ∧ Rel W C' H' W ∧ Grow Hp H' ∧ VRs C' as args ∧ ARs (outC H') (l.args y) as
  | [], l, args, ds, ps, C, Hp, hs, hA, _, _, hR => by
    cases hs
    obtain ⟨rfl, _, _⟩ := trodAll_nil hA
    exact ⟨C, Hp, [], (() : Unit), CM.le_refl C, hR, .refl Hp, .nil, .nil⟩
  | t :: ts, l, args, ds, ps, C, Hp, hs, hA, hz, hv, hR => by
    simp only [shsOf] at hs
    split at hs
    · cases hs
    · rename_i s hst
      by_cases hc : P.cellsOf t = s.n
      · rw [if_pos hc] at hs
        split at hs
        · cases hs
        · rename_i r hr
          cases hs
          obtain ⟨v, vs, dd, ds', p, q, rfl, rfl, rfl, ⟨fuel, hd⟩, hrest⟩ := trodAll_cons hA
          obtain ⟨C1, H1, as1, y, a1, a2, a3, a4, a5, a6, a7⟩ := got_cells fuel d t s _ _ C Hp hst hd (fun b o hb => hz b o (List.mem_append_left _ hb)) hR
          obtain ⟨C2, H2, as2, ys, b1, b2, b3, b4, b5⟩ := args_got (C := C1) (Hp := H1) hr hrest (fun b o hb => hz b o (List.mem_append_right _ hb)) (fun j t' v' h1 h2 => hv (j + 1) t' v' (by simpa using h1) (by simpa using h2)) a2
          have hok := hv 0 t v rfl rfl
          -- the argument itself
          have one : ∃ a, VR C1 a v ∧ AR (outC H1) (s.arg y) a := by
            cases d with
            | zero => cases hst
            | succ d =>
              have single : ∀ {L : LV}, s.enc y = [L] → s.arg y = L → v.cells.toList = [v] → ∃ a, VR C1 a v ∧ AR (outC H1) (s.arg y) a := by
                intro L e1 e2 e3
                rw [e3] at a4
                rw [e1] at a6
                cases a4 with
                | cons h1 h2 =>
                  cases a6 with
                  | cons h3 h4 => exact ⟨_, h1, by rw [e2]; exact h3⟩
              simp only [shOf] at hst
              split at hst
              · rename_i hu
                cases hst
                obtain ⟨b, rfl⟩ := okWide_bool hu hok
                exact single rfl rfl rfl
              · rename_i k hu
                obtain ⟨n, rfl⟩ := okWide_int hu hok
                split at hst <;> cases hst <;> exact single rfl rfl rfl
              · rename_i hu
                cases hst
                obtain ⟨b, rfl⟩ := okWide_string hu hok
                exact single rfl rfl rfl
              · rename_i e hu
                obtain ⟨a, len, cap, rfl⟩ := okWide_slice hu hok
                split at hst
                · cases hst
                · rename_i se hse
                  by_cases hce : P.cellsOf e = se.n ∧ 0 < se.n
                  · rw [if_pos hce] at hst; cases hst
                    exact single rfl rfl rfl
                  · rw [if_neg hce] at hst; cases hst
              · rename_i fs hu
                obtain ⟨cs, rfl, _⟩ := okWide_struct hu hok
                split at hst
                · cases hst
                · rename_i l hl
                  cases hst
                  exact ⟨.agg as1, .agg a4 a5, .agg a6⟩
              · cases hst
          obtain ⟨a, o1, o2⟩ := one
          exact ⟨C2, H2, a :: as2, (y, ys), CM.le_trans a1 b1, b2, a3.trans b3, .cons (o1.mono b1) b4, .cons (o2.mono b3.le) b5⟩
      · rw [if_neg hc] at hs; cases hs

/-- What the logic says of every input, the machine does. -/
theorem walk_of {f d base : Nat} {ts : List TypeId} {l : ShL} (hm : P.follows .mixedOrders = true) (hsh : shsOf P d ts = some l) (h : ∀ y : l.T, CallL P (.fn f) (l.args y) [] fun v _ => v = .bool true) {W : World} {args : Array Value} {ds : List (DataW H)} {ps : List MemPlace}
    (hA : DataW.TrodAll enc P W 0 (fun _ => true) true ts args.toList ds ps) (hz : W.noneFrozen ps) (hv : ∀ (j : Nat) (t : TypeId) (v : Value), ts[j]? = some t → args.toList[j]? = some v → Value.okWide P W .any base t v) :
    Calls P f args W fun e w' => e = .returned (.bool true) ∧ Below W.heap.size W w' := by
  obtain ⟨C, Hp, as, y, _, hR, _, hV, hAs⟩ := args_got hsh hA hz hv (Rel.start W)
  obtain ⟨m, v1, H', q1, c', v, G', q2, q3, q4, q5, q6⟩ := (h y).2 (outC Hp) (.fn f) as (HSim.empty (fun o ho => ho)) rfl hAs
  subst q6
  cases q5
  intro cs
  obtain ⟨C', w', v', fr, h1, h2, h3, h4, h5, h6⟩ := callA_sound hm (noO_sound P) m W _ _ W (.fn f) as _ _ _ hR hV q1 cs
  cases h3
  exact ⟨.returned (.bool true), w', fr, ⟨rfl, h2.low⟩, h4, h5, h6⟩

theorem stays_all (hl : laidOutB P = true) {W W' : World} (hb : Below W.heap.size W W') {sp : Nat → Bool} : ∀ {ts : List TypeId} {vs : List Value} {ds : List (DataW H)} {ps : List MemPlace}, (∀ t ∈ ts, P.readableRec t = true ∧ t < P.types.size) → DataW.TrodAll enc P W 0 (fun _ => true) true ts vs ds ps →
    (∀ x ∈ ps, x.block < W.heap.size) → (∀ x ∈ ps, sp x.block = true) → DataW.TrodAll enc P W' 0 sp true ts vs ds ps
  | [], [], [], _, _, h, _, _ => h
  | t :: ts, v :: vs, d :: ds, _, hr, ⟨p, q, h1, h2, e⟩, hlt, hsp => by
    subst e
    exact ⟨p, q, WideElems.Trod_stays hl (hr t (by simp)).1 (hr t (by simp)).2 h1 (fun x hx => hb.same (hlt x (List.mem_append_left _ hx))) (fun x hx => hsp x (List.mem_append_left _ hx)),
      stays_all hl hb (fun t' ht => hr t' (by simp [ht])) h2 (fun x hx => hlt x (List.mem_append_right _ hx)) (fun x hx => hsp x (List.mem_append_right _ hx)), rfl⟩
  | [], [], _ :: _, _, _, h, _, _ => h.elim
  | [], _ :: _, _, _, _, h, _, _ => h.elim
  | _ :: _, [], _, _, _, h, _, _ => h.elim
  | _ :: _, _ :: _, [], _, _, h, _, _ => h.elim

/-- A call that returns true and turns nothing of what was there. -/
theorem law_post {f : Func} {s : ChangeSpec} {apart fresh handsOn again : Bool} {W W' : World} {args : Array Value} {ds gs : List (DataW H)} {before : List MemPlace} {tb : TypeId} (hW : DataW.Whole enc P f.params.toList s.vars apart W args.toList ds gs before) (hvars : s.vars = [])
    (hspec : ∀ ds' : List (DataW H), ds'.length = f.params.toList.length → s.fn H ds' = { results := [.lit (.bool true)], args := ds' }) (hb : Below W.heap.size W W') (hl : laidOutB P = true) (hr : ∀ t ∈ f.params.toList, P.readableRec t = true ∧ t < P.types.size)
    (hres : f.resultTypes = #[tb]) (hbool : P.underlying tb = some .bool) : s.post enc P f apart fresh handsOn again W args (.bool true) W' := by
  have hW' := hW
  obtain ⟨p, q, hA, hV, rfl, hfz, hnd⟩ := hW
  rw [hvars] at hV
  obtain ⟨rfl, rfl⟩ := trodVars_none hV
  have hlen : ds.length = f.params.toList.length := (trodAll_length hA).2
  have hs := hspec ds hlen
  have hs' : s.fn H (ds ++ []) = { results := [.lit (.bool true)], args := ds } := by rw [List.append_nil]; exact hs
  have hlt := hW'.lt
  refine post_below (pa := p) (pv := []) hW' (fun b sp hd => ?_) (fun sp hsp => ?_) (fun sp _ => ?_) rfl hb ?_
  · rw [hs', hres]
    exact trodAll_cons_mk (shut_bool hbool _) trodAll_mk0
  · rw [hs']
    exact stays_all hl hb hr hA (fun x hx => hlt x (by simp [hx])) (fun x hx => hsp x (by simp [hx]))
  · rw [hs', hvars]; rfl
  · exact ok_one hres rfl (okWide_bool_mk hbool _)
end law
end Go.Sv
