/- Every operation of the evaluator's against the model's. -/
import Derived.Test.YtnlnmpjdcopngaaGreatSvOpsK
import Derived.Laws.Externs
import Derived.MapKept
namespace Go.Sv
open Go.RowKit (Below)

theorem run_callFunc {P : Program} {w : World} {f : Nat} (h : callable P f = true) (args : Array Value) : (callFunc f args).run P w = .ok (.enter f args) w := by
  unfold callable at h
  cases hf : P.funcs[f]? with
  | none => rw [hf] at h; cases h
  | some fn =>
    rw [hf] at h
    simp only [Bool.and_eq_true, bne_iff_ne, ne_eq] at h
    obtain ⟨h1, h2⟩ := h
    have h2' : fn.body ≠ none := by intro e; rw [e] at h2; cases h2
    simp [callFunc, hf, h1, h2']

theorem callFn_ok {P : Program} {w0 : World} {C : CM} {w : World} {g : AV} {gv : Value} (hg : VR C g gv) {args : List AV} {vs : Array Value} (hv : VRs C args vs.toList) {nx : Sem Next}
    (hnx : ∀ fn first cap, gv = .func fn first cap → nx.run P w = (invoke (.fn fn cap) (first ++ vs)).run P w) : OROk P w0 C w nx (callFn P g args) := by
  unfold callFn
  split
  · rename_i f first cap
    split
    · rename_i hc
      cases hg with
      | @fn _ g' _ _ l' r' hf hl hr =>
        cases hf with
        | same =>
          refine ⟨l'.toList ++ vs.toList ++ r'.toList, (hl.append hv).append hr, .inl ⟨f, rfl, ?_⟩⟩
          rw [hnx _ _ _ rfl]
          have : (l' ++ vs ++ r') = (l'.toList ++ vs.toList ++ r'.toList).toArray := by simp
          rw [← this]
          exact run_callFunc hc _
    · exact trivial
  · rename_i l cap
    cases hg with
    | @fn _ g' _ _ l' r' hf hl hr =>
      cases hf with
      | same _ h => exact absurd rfl (h l)
      | @yield _ L hL =>
        have hl0 : l' = #[] := by
          have := hl.length
          exact Array.eq_empty_of_size_eq_zero (by simpa using this.symm)
        subst hl0
        refine ⟨vs.toList, hv, .inr ⟨l, L, rfl, hL, ?_⟩⟩
        rw [hnx _ _ _ rfl]
        simp [invoke]
  · exact trivial

theorem find_clone {fn : Func} (h1 : fn.name = "maps.clone") (h2 : fn.origin = "") : Extern.findNext fn = none ∧ Extern.find fn = some Extern.MapsClone.clone := by
  have e1 : Extern.allNextRows.lookup "maps.clone" = none := by kernel_rfl
  have e2 : Extern.allNextRows.lookup "" = none := by kernel_rfl
  have e3 : Extern.allGenericRows.lookup "maps.clone" = none := by kernel_rfl
  have e4 : Extern.allTypedRows.lookup "maps.clone" = none := by kernel_rfl
  have e5 : Extern.allRows.lookup "maps.clone" = some Extern.MapsClone.clone := by kernel_rfl
  refine ⟨?_, ?_⟩
  · unfold Extern.findNext
    dsimp only
    rw [h1, h2, e1, e2]
    rfl
  · unfold Extern.find
    dsimp only
    rw [h1, e3, e4, e5]
    rfl
theorem run_clone {P : Program} {w : World} {r : Nat} {es : Array MapEntry} {clock : Nat} (t : TypeId) (hb : w.heap[r]? = some (.map es clock)) :
    (Extern.MapsClone.clone #[.iface t (.map (some r))]).run P w = .ok (.iface t (.map (some w.heap.size))) (w.alloc (.map es clock)) := by
  have e : Extern.MapsClone.clone #[.iface t (.map (some r))] = (getObj r >>= fun o => match o with
      | .map entries clock => (_root_.Go.newObj (.map entries clock) >>= fun n => pure (.iface t (.map (some n))))
      | _ => stuck "maps.clone: a map expected") := rfl
  rw [e]
  simp [MapKept.run_getObj_map hb, Result.andThen, go_sem]
theorem clone_ok {P : Program} {w0 : World} {C : CM} {H : Heap} {w : World} (hR : Rel w0 C H w) {f : Nat} (hf : isClone P f = true) {args : List AV} {vs : Array Value} (hv : VRs C args vs.toList) :
    OROk P w0 C w (callFunc f vs) (cloneA H args) := by
  unfold isClone at hf
  split at hf
  · rename_i fn hfn
    simp only [Bool.and_eq_true, beq_iff_eq] at hf
    obtain ⟨⟨h1, h2⟩, h3⟩ := hf
    obtain ⟨k1, k2⟩ := find_clone h1 h2
    have hrun := run_callFunc_extern (P := P) hfn (by rw [h1]; decide) h3 k1 k2 vs w
    unfold cloneA
    split
    · rename_i t o
      split
      · rename_i es ck hg
        · generalize hvs : vs.toList = l at hv
          cases hv with
          | cons hx hs =>
            cases hs
            cases hx with
            | iface hx =>
              cases hx with
              | @map _ L hL =>
                have hvs' : vs = #[.iface t (.map (some L.b))] := Array.toList_inj.1 hvs
                obtain ⟨q1, ces, q2, q3⟩ := hR.obj _ _ (hR.fresh _ _ _ hL) hg L hL
                obtain ⟨p1, p2⟩ := hR.push (.map es ck) (.map ces ck) 0 0 (fun L' hL' => by
                  rw [CM.ext_same] at hL'; cases hL'
                  exact ⟨hR.low.size, ces, heap_alloc_new _ _, q3.mono (CM.le_ext _ (hR.next_none 0) (.inr (Nat.le_of_eq hR.nx)))⟩)
                refine ⟨_, _, .iface t (.map (some w.heap.size)), p2, p1, .iface (.map (CM.ext_same _ _ _ _)), .inl ?_⟩
                rw [hrun, hvs', run_clone t q2]
                rfl
      · exact trivial
    · exact trivial
  · cases hf

theorem methodA_spec {P : Program} {w : World} {t : TypeId} {name : String} {f : Nat} (h : methodA P t name = some f) (v : Value) : (method (P.types.size + Made.depth) t v name).run P w = .ok (f, v) w := by
  unfold methodA at h
  have hd : P.types.size + Made.depth = (P.types.size + 99) + 1 := rfl
  rw [hd]
  cases hi : P.info? t with
  | none => rw [hi] at h; cases h
  | some i =>
    rw [hi] at h
    dsimp only at h
    cases hm : i.methods.find? (·.name == name) with
    | none => rw [hm] at h; cases h
    | some m =>
      rw [hm] at h
      dsimp only at h
      split at h
      · rename_i hp
        have hp' : m.path = #[] := Array.isEmpty_iff.1 hp
        unfold method
        simp only [Sem.run_bind, run_info hi, Result.andThen_ok, hm, hp', follow, Sem.run_pure]
        split at h
        · rename_i f' e hf hu
          cases h
          simp only [hf, Sem.run_bind, receiverAt, run_und hu, Result.andThen_ok, Place.get, Sem.run_pure]
        · cases h
        · rename_i f' d hne hf hu
          cases h
          simp only [hf, Sem.run_bind, receiverAt, run_und hu, Result.andThen_ok]
          cases d <;> first | rfl | exact absurd hu (hne _)
        · cases h
      · cases h

theorem call_sound (P : Program) (c : Call) (o : Oper) (ho : o.op = .call c) : Sound P (callF P c) (fun ρ => execOp ρ o) := by
  have hex : ∀ ρ, execOp ρ o = (do let d ← resolve ρ c o.type; invoke d.target d.args) := fun ρ => by simp [execOp, ho]
  refine Sound.congr (fun ρ => (hex ρ).symm) ?_
  unfold callF
  split
  · rename_i b hb
    have hb' : ∀ ρ, (do let d ← resolve ρ c o.type; invoke d.target d.args : Sem Next) = builtin b c.argTypes o.type (c.args.map fun | .const _ => true | _ => false) (c.args.map ρ) := by
      intro ρ
      simp only [resolve, hb]
      rfl
    refine Sound.congr (fun ρ => (hb' ρ).symm) ?_
    split
    · split
      · rename_i t x ht hx
        have et := arr1 ht
        have ex := arr1 hx
        exact Sound.congr (fun ρ => by rw [et, ex]; simp [builtin]) (len_sound P t o.type x)
      · exact stuck_sound P _
    · split
      · rename_i t x ht hx
        have et := arr1 ht
        have ex := arr1 hx
        exact Sound.congr (fun ρ => by rw [et, ex]; simp [builtin]) (cap_sound P t o.type x)
      · exact stuck_sound P _
    · exact Sound.congr (fun ρ => by simp [builtin]) (max_sound P true c.args c.argTypes o.type)
    · exact Sound.congr (fun ρ => by simp [builtin]) (max_sound P false c.args c.argTypes o.type)
    · exact Sound.congr (fun ρ => by simp [builtin]) (append_sound P c.argTypes c.args o.type)
    · exact Sound.congr (fun ρ => by simp [builtin]) (copy_sound P c.argTypes c.args o.type)
    · exact Sound.congr (fun ρ => by simp [builtin]) (clear_sound P c.argTypes c.args o.type)
    · exact Sound.congr (fun ρ => by simp [builtin]) (delete_sound P c.argTypes c.args o.type)
    · exact stuck_sound P _
  · rename_i f hf
    intro w0 C H w E ρ hR hρ
    dsimp only
    split
    · rename_i g hg
      split
      · rename_i l hl
        have hfn : OROk P w0 C w (do let d ← resolve ρ c o.type; invoke d.target d.args) (callFn P g l) := by
          refine callFn_ok (hρ _ _ hg) (vs := c.args.map ρ) (by rw [Array.toList_map]; exact opds_spec hρ hl) (fun fn first cap hv => ?_)
          simp only [resolve, hf, hv, Deferred.ofValue, Sem.run_bind, Sem.run_pure, Result.andThen_ok]
        unfold callVal
        split
        · rename_i f'
          split
          · rename_i hcl
            have hk := clone_ok hR hcl (vs := c.args.map ρ) (by rw [Array.toList_map]; exact opds_spec hρ hl)
            have hv := hρ _ _ hg
            generalize hgv : ρ f = gv at hv
            cases hv with
            | @fn _ g' _ _ l' r' hff hl' hr' =>
              cases hff with
              | same =>
                have e1 : l' = #[] := Array.eq_empty_of_size_eq_zero (by simpa using hl'.length.symm)
                have e2 : r' = #[] := Array.eq_empty_of_size_eq_zero (by simpa using hr'.length.symm)
                subst e1 e2
                have hrun : (do let d ← resolve ρ c o.type; invoke d.target d.args : Sem Next).run P w = (callFunc f' (c.args.map ρ)).run P w := by
                  simp only [resolve, hf, hgv, Deferred.ofValue, Sem.run_bind, Sem.run_pure, Result.andThen_ok, invoke]
                  simp
                unfold OROk at hk ⊢
                split at hk
                · exact trivial
                · obtain ⟨C', w', x, a1, a2, a3, a4⟩ := hk
                  exact ⟨C', w', x, a1, a2, a3, by rw [hrun]; exact a4⟩
                · rename_i t args hcall
                  unfold cloneA at hcall
                  split at hcall
                  · split at hcall <;> cases hcall
                  · cases hcall
          · exact hfn
        · exact hfn
      · exact trivial
    · exact trivial
  · rename_i r name hr
    intro w0 C H w E ρ hR hρ
    dsimp only
    split
    · rename_i t v hv
      split
      · rename_i f hm
        split
        · rename_i l hl
          split
          · rename_i hc
            have hv' := hρ _ _ hv
            generalize hrv : ρ r = pv at hv'
            cases hv' with
            | @iface _ _ u hu =>
              refine ⟨u :: c.args.toList.map ρ, .cons hu (opds_spec hρ hl), .inl ⟨f, rfl, ?_⟩⟩
              have e1 : (#[Value.iface t u] ++ c.args.map ρ)[0]? = some (Value.iface t u) := by rw [Array.getElem?_append_left (by simp)]; rfl
              have e2 : (#[Value.iface t u] ++ c.args.map ρ).extract 1 (#[Value.iface t u] ++ c.args.map ρ).size = c.args.map ρ := by simp
              have e3 : (#[u] ++ c.args.map ρ) = (u :: c.args.toList.map ρ).toArray := by simp
              simp only [resolve, hr, hrv, Sem.run_bind, Sem.run_pure, Result.andThen_ok, invoke, e1, e2, callMethod, run_program, methodA_spec hm u, e3]
              exact run_callFunc hc _
          · exact trivial
        · exact trivial
      · exact trivial
    · exact trivial

/-- Every operation. -/
theorem op_sound (P : Program) (o : Oper) : Sound P (compOp P o.op) (fun ρ => execOp ρ o) := by
  generalize ho : o.op = op
  cases op with
  | move x => exact Sound.congr (fun ρ => by simp [execOp, ho]) (move_sound P x)
  | assign x => exact Sound.congr (fun ρ => by simp [execOp, ho]) (move_sound P x)
  | pick c a b => exact Sound.congr (fun ρ => by simp [execOp, ho]) (pick_sound P c a b)
  | alloc t => exact Sound.congr (fun ρ => by simp only [execOp, ho]) (alloc_sound P t)
  | box t x => exact Sound.congr (fun ρ => by simp [execOp, ho]) (box_sound P t x)
  | build t ps => exact Sound.congr (fun ρ => by simp [execOp, ho]) (build_sound P t ps)
  | buildSlice t n ps => exact Sound.congr (fun ρ => by simp [execOp, ho]) (buildSlice_sound P t n ps)
  | load t a => exact Sound.congr (fun ρ => by simp [execOp, ho]) (load_sound P t a)
  | store t a x => exact Sound.congr (fun ρ => by simp [execOp, ho]) (store_sound P t a x)
  | nilCheck x => exact nilCheck_sound P x o ho
  | binOp op t x y yt => exact bin_sound P op t yt x y o ho
  | unOp op t x => exact un_sound P op t x o ho
  | convert s d x => exact Sound.congr (fun ρ => by simp [execOp, ho]) (conv_sound P s d x)
  | makeInterface t x => exact Sound.congr (fun ρ => by simp [execOp, ho]) (mkIface_sound P t x)
  | makeFunc f a b =>
    cases f with
    | yield l => exact stuck_sound P _
    | _ => exact Sound.congr (fun ρ => by simp [execOp, ho]) (mkFunc_sound P _ a b (fun l e => by cases e))
  | makeMap t r => exact Sound.congr (fun ρ => by simp [execOp, ho]) (mkMap_sound P t r)
  | makeSlice t l c => exact Sound.congr (fun ρ => by simp [execOp, ho]) (mkSlice_sound P t l c)
  | slice t x a b c => exact Sound.congr (fun ρ => by simp [execOp, ho]) (slice_sound P t x a b c)
  | fieldAddr t x f => exact Sound.congr (fun ρ => by simp [execOp, ho]) (fieldAddr_sound P t x f)
  | field t x f => exact Sound.congr (fun ρ => by simp [execOp, ho]) (field_sound P t x f)
  | indexAddr t x i => exact Sound.congr (fun ρ => by simp [execOp, ho]) (indexAddr_sound P t x i)
  | index t x i => exact Sound.congr (fun ρ => by simp [execOp, ho]) (index_sound P t x i)
  | lookup t x i ok => exact Sound.congr (fun ρ => by simp [execOp, ho]) (lookup_sound P t x i ok)
  | mapUpdate t m k x => exact Sound.congr (fun ρ => by simp [execOp, ho]) (mapUpdate_sound P t m k x)
  | insert t m k x => exact Sound.congr (fun ρ => by simp [execOp, ho]) (mapUpdate_sound P t m k x)
  | range t x => exact Sound.congr (fun ρ => by simp [execOp, ho]) (range_sound P t x)
  | next it s => exact Sound.congr (fun ρ => by simp [execOp, ho]) (next_sound P it s o.type)
  | typeAssert x t a ok => exact Sound.congr (fun ρ => by simp [execOp, ho]) (assert_sound P x t a ok)
  | extract t i => exact Sound.congr (fun ρ => by simp [execOp, ho]) (extract_sound P t i)
  | call c => exact call_sound P c o ho
  | _ => exact stuck_sound P _

end Go.Sv
