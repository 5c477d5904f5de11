/- The logic's regions that draw their order. -/
import Derived.Test.YtlfffpmdofacjaaLgRun
namespace Go.Sv

/-- Which object an operation reads; 'none' within: none that anybody turns. -/
noncomputable def tgtL (ρ : LEnv) (G : LHeap) : LOp → Option (Option Nat)
  | .load1 x | .loadN _ x => match x.ev ρ with
    | .ptr p _ => some (some p)
    | .dptr p k _ => match G[p]? with
      | some (.dyn _ _ _ ver _) => if k = ver then some (some p) else none
      | _ => none
    | .cptr _ _ => some none
    | _ => none
  | .cvStr x => match x.ev ρ with
    | .nilSl => some none
    | .lst _ _ _ => some none
    | .dy p k => match G[p]? with
      | some (.dyn _ _ _ ver _) => if k = ver then some (some p) else none
      | _ => none
    | _ => none
  | _ => none
/-- An object is as it was. -/
def keptL (G G' : LHeap) (p : Nat) : Prop := match G[p]?, G'[p]? with
  | some a, some b => a.stp = true ∧ a.st = b.st
  | _, _ => False
noncomputable def ckC (ρ : LEnv) (G G' : LHeap) (x : LI × Bool) : Prop := match x.2 with
  | false => match tgtL ρ G x.1.o with
    | some none => True
    | some (some p) => keptL G G' p
    | none => False
  | true => match x.1.d with
    | none => False
    | some d => match lk ρ d with
      | .ptr p _ => keptL G G' p
      | .dy p k => (match G[p]? with
        | some (.dyn _ _ _ ver _) => k = ver
        | _ => False) ∧ keptL G G' p
      | _ => False
noncomputable def ckL (ρ : LEnv) (G G' : LHeap) (x : LI × Bool) : Prop := match x.1.g with
  | none => ckC ρ G G' x
  | some (t, w) => match lk ρ t with
    | .bool b => b = w → ckC ρ G G' x
    | _ => ckC ρ G G' x
noncomputable def cksL (ρ : LEnv) (G G' : LHeap) : List (LI × Bool) → Prop
  | [] => True
  | x :: l => ckL ρ G G' x ∧ cksL ρ G G' l
noncomputable def DrL (P : Program) : List (LI × List (LI × Bool)) → LEnv → LHeap → (LEnv → LHeap → Prop) → Prop
  | [], ρ, G, K => K ρ G
  | (x, cs) :: l, ρ, G, K => ItL P x ρ G fun ρ' G' => cksL ρ G G' cs ∧ DrL P l ρ' G' K

section al
variable {P : Program}
theorem reId_self {v : AV} {id n : Nat} (h : idOf v = some id) : reId id (reId n v) = v := by
  cases v <;> first | (cases h; done) | (cases h; rfl)
theorem newVar_any {H H1 : Heap} {l : List AV} {v : AV} (h : newVarA H l = .val v H1) : ∃ ob, H1 = H.push ob ∧ idOf v = some H.next ∧ ∀ H2, newVarA H2 l = .val (reId H2.next v) (H2.push ob) := by
  unfold newVarA newObj at h
  cases h
  exact ⟨_, rfl, rfl, fun H2 => rfl⟩
theorem newSl_any {H H1 : Heap} {l : List AV} {a b : Nat} {r : Option Nat} {v : AV} (h : (match newObj H l with
    | some (o, H') => OR.val (.sl o 0 0 a b r) H'
    | none => .no) = .val v H1) : ∃ ob, H1 = H.push ob ∧ idOf v = some H.next ∧ ∀ H2, (match newObj H2 l with
    | some (o, H') => OR.val (.sl o 0 0 a b r) H'
    | none => .no) = .val (reId H2.next v) (H2.push ob) := by
  unfold newObj at h
  cases h
  exact ⟨_, rfl, rfl, fun H2 => rfl⟩
/-- What just makes an object makes it whatever else there is. -/
theorem al_any {o : Op} (hc : cls P o = .al) {E : Tr AV} {H H1 : Heap} {v : AV} (h : (compOp P o).run E H = .val v H1) : ∃ ob, H1 = H.push ob ∧ idOf v = some H.next ∧ ∀ H2, (compOp P o).run E H2 = .val (reId H2.next v) (H2.push ob) := by
  cases o with
  | alloc t =>
    simp only [compOp] at h ⊢
    split at h
    · exact newVar_any h
    · cases h
  | box t x =>
    simp only [compOp, unary1] at h ⊢
    cases hx : (opd x).run E with
    | none => rw [hx] at h; cases h
    | some a =>
      rw [hx] at h
      dsimp only at h ⊢
      cases hl : a.cells with
      | none => rw [hl] at h; cases h
      | some l => rw [hl] at h; exact newVar_any h
  | buildSlice t len parts =>
    simp only [compOp, buildSliceF] at h ⊢
    split at h
    · split at h
      · cases h
      · split at h
        · cases h
        · rename_i z hz
          by_cases hb : len * ‹Nat› ≤ 2 ^ 20 ∧ 0 < ‹Nat›
          · rw [if_pos hb] at h ⊢
            split at h
            · cases h
            · dsimp only at h ⊢
              split at h
              · exact newSl_any h
              · cases h
          · rw [if_neg hb] at h; cases h
    · cases h
  | makeSlice t l c =>
    simp only [compOp, mkSliceF] at h ⊢
    split at h
    · split at h
      · cases h
      · split at h
        · cases h
        · split at h
          · rename_i i hi z hz hb
            simp only [if_pos hb]
            simp only [binary2] at h ⊢
            cases hl : (opd l).run E with
            | none => rw [hl] at h; cases h
            | some a =>
              rw [hl] at h
              cases hcc : (opd c).run E with
              | none => rw [hcc] at h; cases h
              | some b =>
                rw [hcc] at h
                dsimp only at h ⊢
                split at h
                · rename_i n m
                  cases h1 : Nat.ble n m with
                  | false => rw [h1] at h; cases h
                  | true =>
                    rw [h1] at h
                    cases h2 : Nat.ble m 1048576 with
                    | false => rw [h2] at h; cases h
                    | true => rw [h2] at h; exact newSl_any h
                · cases h
          · cases h
    · cases h
  | makeMap t r =>
    have pm : ∀ {v : AV} {H1 : Heap}, pushMap H = .val v H1 → ∃ ob, H1 = H.push ob ∧ idOf v = some H.next ∧ ∀ H2, pushMap H2 = .val (reId H2.next v) (H2.push ob) := fun h => by
      unfold pushMap at h
      cases h
      exact ⟨_, rfl, rfl, fun H2 => rfl⟩
    simp only [compOp, mkMapF] at h ⊢
    split at h
    · exact pm h
    · rename_i x
      split at h
      · simp only [unary1] at h ⊢
        cases hx : (opd x).run E with
        | none => rw [hx] at h; cases h
        | some a =>
          rw [hx] at h
          dsimp only at h ⊢
          split at h
          · exact pm h
          · cases h
      · cases h
  | _ =>
    exfalso
    simp only [cls] at hc
    first
      | (cases hc; done)
      | (split at hc <;> first | (cases hc; done) | (split at hc <;> cases hc))
      | (simp only [clsCall] at hc; split at hc <;> first | (cases hc; done) | (split at hc <;> first | (cases hc; done) | (split at hc <;> cases hc)))
end al

section draw
variable {P : Program} {n : Nat} {ops : Array Oper}

/-- What was read or made is so still. -/
def Valid (P : Program) (ops : Array Oper) (x : DOp) (E : Tr AV) (H : Heap) : Prop := match x.c with
  | .rd => (guardF ops x.o).run E = true → ∃ d v, x.o.dst = some d ∧ getP (pathOf d) E = some v ∧ (compOp P x.o.op).run E H = .val v H
  | .al => (guardF ops x.o).run E = true → ∃ d v id ob, x.o.dst = some d ∧ getP (pathOf d) E = some v ∧ idOf v = some id ∧ H.get id = some ob ∧ ∀ H2, (compOp P x.o.op).run E H2 = .val (reId H2.next v) (H2.push ob)
  | _ => True
theorem valid_recheck {x : DOp} {E : Tr AV} {H : Heap} (h : Valid P ops x E H) (hc : x.c = .rd ∨ x.c = .al) (hd : ownDst ops x = true) : (recheck P ops x).run E H = true := by
  unfold recheck
  cases hdst : x.o.dst with
  | none => unfold ownDst at hd; rw [hdst] at hd; cases hd
  | some d =>
    dsimp only
    cases hg : (guardF ops x.o).run E with
    | false => rfl
    | true =>
      dsimp only
      unfold Valid at h
      rcases hc with hc | hc
      · rw [hc] at h
        obtain ⟨d', v, h1, h2, h3⟩ := h hg
        rw [hdst] at h1; cases h1
        rw [h2, h3, hc]
        dsimp only
        unfold sameB
        split
        · rfl
        · exact @decide_eq_true _ (Classical.propDecidable _) rfl
      · rw [hc] at h
        obtain ⟨d', v, id, ob, h1, h2, h3, h4, h5⟩ := h hg
        rw [hdst] at h1; cases h1
        rw [h2, h5 H, hc]
        dsimp only
        unfold reMade
        rw [h3]
        dsimp only
        have e1 : sameB (eqAV 30 v (reId id (reId H.next v))) v (reId id (reId H.next v)) = true := by
          unfold sameB
          split
          · rfl
          · exact @decide_eq_true _ (Classical.propDecidable _) (reId_self h3).symm
        rw [e1, h4, Heap.get_push_same]
        dsimp only
        unfold sameB
        split
        · rfl
        · exact @decide_eq_true _ (Classical.propDecidable _) rfl
theorem memN_spec {t : Nat} : ∀ {l : List Nat}, memN t l = false → t ∉ l
  | [], _ => by simp
  | a :: l, h => by
    simp only [memN] at h
    cases hb : Nat.beq t a with
    | true => rw [hb] at h; cases h
    | false =>
      rw [hb] at h
      intro hm
      rcases List.mem_cons.1 hm with rfl | hm
      · rw [Nat.beq_refl] at hb; cases hb
      · exact memN_spec h hm
theorem off_same {x : DOp} {d : Option Nat} (h : offOf ops d x = true) (v : AV) (E : Tr AV) : Same (looks ops x.o) (putE d v E) E ∧ ∀ e, x.o.dst = some e → getP (pathOf e) (putE d v E) = getP (pathOf e) E := by
  cases d with
  | none => exact ⟨fun t _ _ => rfl, fun e _ => rfl⟩
  | some d =>
    unfold offOf at h
    dsimp only at h
    cases hm : memN d (looks ops x.o) with
    | true => rw [hm] at h; cases h
    | false =>
      rw [hm] at h
      dsimp only at h
      refine ⟨fun t ht _ => ?_, fun e he => ?_⟩
      · show getP (pathOf t) (setP v (pathOf d) E) = _
        rw [get_set_ne (fun q => memN_spec hm (by rw [← q]; exact ht))]
      · rw [he] at h
        dsimp only at h
        show getP (pathOf e) (setP v (pathOf d) E) = _
        rw [get_set_ne (fun q => by rw [q, Nat.beq_refl] at h; cases h)]
theorem Valid.put {x : DOp} {E : Tr AV} {H : Heap} (h : Valid P ops x E H) {d : Option Nat} (ho : offOf ops d x = true) (v : AV) : Valid P ops x (putE d v E) H := by
  obtain ⟨h1, h2⟩ := off_same ho v E
  have hg := guardF_cong (o := x.o) h1
  have hc : ∀ H2, (compOp P x.o.op).run (putE d v E) H2 = (compOp P x.o.op).run E H2 := fun H2 => compOp_cong' h1
  unfold Valid at h ⊢
  cases hx : x.c with
  | rd =>
    rw [hx] at h
    intro g
    obtain ⟨d', w, k1, k2, k3⟩ := h (by rw [← hg]; exact g)
    exact ⟨d', w, k1, by rw [h2 d' k1]; exact k2, by rw [hc]; exact k3⟩
  | al =>
    rw [hx] at h
    intro g
    obtain ⟨d', w, id, ob, k1, k2, k3, k4, k5⟩ := h (by rw [← hg]; exact g)
    exact ⟨d', w, id, ob, k1, by rw [h2 d' k1]; exact k2, k3, k4, fun H2 => by rw [hc]; exact k5 H2⟩
  | quiet => trivial
  | ch => trivial

theorem guard_res {x : DOp} {r : RI} (hr : resItem P n ops x.o = some r) (E : Tr AV) : (guardF ops x.o).run E = grd r.g E ∧ resOp P x.o.op = some r.o ∧ r.d = x.o.dst := by
  unfold resItem at hr
  split at hr
  · cases hr
  · split at hr
    · cases hr
    · rename_i ro hro
      split at hr
      · rename_i hg
        cases hr
        refine ⟨?_, hro, rfl⟩
        unfold guardF; rw [hg]; rfl
      · rename_i j w hg
        split at hr
        · cases hr
        · rename_i t ht
          split at hr
          · rename_i hl
            cases hr
            refine ⟨?_, hro, rfl⟩
            unfold guardF
            rw [hg]
            dsimp only
            rw [ht]
            dsimp only
            rw [if_pos (Nat.le_of_ble_eq_true hl)]
            rfl
          · cases hr

/-- What was read or made is so still where the object is as it was. -/
theorem Valid.keep {x : DOp} {li : LI} (hr : resItem P n ops x.o = some li.r) (hok : li.o.ok = true) {c c1 : Cx} {G G1 : LHeap} {ρ : LEnv} {E : Tr AV} (hs : HSim c G) (hE : EnvL c ρ E) (st : Step c G c1 G1) (hck : ckL ρ G G1 (li, isAl x))
    (h : Valid P ops x E c.H) : Valid P ops x E c1.H := by
  have hgr : ∀ {p k : Nat} {a : AV} {o : Nat}, keptL G G1 p → c.hd[p]? = some (k, a) → idOf a = some o → c1.H.get o = c.H.get o := by
    intro p k a o hk e1 e2
    unfold keptL at hk
    split at hk
    · rename_i a1 b1 g1 g2
      exact (st.st p a1 b1 k a o g1 g2 e1 e2 hk.1 hk.2).2.1
    · exact hk.elim
  obtain ⟨g1, g2, g3⟩ := guard_res hr E
  have hcore : (guardF ops x.o).run E = true → ckC ρ G G1 (li, isAl x) := by
    intro g
    rw [g1] at g
    unfold ckL at hck
    dsimp only at hck
    split at hck
    · exact hck
    · rename_i t w hg
      split at hck
      · rename_i b hb
        refine hck ?_
        have ht := hE t
        rw [hb] at ht
        rw [show li.r.g = li.g from rfl, hg] at g
        unfold grd at g
        dsimp only at g
        cases hq : getP (pathOf t) E with
        | none => rw [hq] at g; cases g
        | some a =>
          rw [hq] at g ht
          cases ht
          cases b <;> cases w <;> first | rfl | cases g
      · exact hck
  unfold Valid at h ⊢
  cases hx : x.c with
  | quiet => trivial
  | ch => trivial
  | rd =>
    rw [hx] at h
    intro g
    have hc := hcore g
    obtain ⟨d, v, k1, k2, k3⟩ := h g
    refine ⟨d, v, k1, k2, ?_⟩
    rw [resOp_ok (EnvR_ρA E) g2] at k3 ⊢
    have hal : isAl x = false := by unfold isAl; rw [hx]
    unfold ckC at hc
    rw [hal] at hc
    dsimp only at hc
    -- what is read, and where
    have ptr1 : ∀ {y : Lx}, y.ok = true → ∀ m, (match y.ev ρ with
        | .ptr p _ => some (some p)
        | .dptr p k _ => (match G[p]? with
          | some (.dyn _ _ _ ver _) => if k = ver then some (some p) else none
          | _ => none)
        | .cptr _ _ => some none
        | _ => (none : Option (Option Nat))) = some m → (∀ p, m = some p → keptL G G1 p) → ∃ o v i, y.r.ev (ρA E) = .ptr o v i ∧ c1.H.get o = c.H.get o := by
      intro y hy m hm hk
      have hv := Lx_ok hE hy
      generalize y.ev ρ = w at hm hv
      generalize y.r.ev (ρA E) = b at hv ⊢
      split at hm
      · rename_i p i
        cases hm
        cases hv with
        | ptr e => exact ⟨_, _, _, rfl, hgr (hk p rfl) e rfl⟩
      · rename_i p k i
        split at hm
        · rename_i l len esz ver stp hg
          by_cases hkv : k = ver
          · rw [if_pos hkv] at hm
            cases hm
            cases hv with
            | @dptr _ _ _ k' o v j hh e hk' ha =>
              have := (hs.obj p _ _ _ hg e).1
              obtain ⟨_, len', esz', room, rfl⟩ := ha (by omega)
              exact ⟨o, v, j, rfl, hgr (hk p rfl) e rfl⟩
          · rw [if_neg hkv] at hm; cases hm
        · cases hm
      · cases hm
        cases hv with
        | cptr hf hr hl => exact ⟨_, _, _, rfl, (st.le.fz _ hf).2⟩
      · cases hm
    have fin : ∀ m, tgtL ρ G li.o = some m → (∀ p, m = some p → keptL G G1 p) → evR P (ρA E) c1.H li.r.o = .val v c1.H := by
      intro m hm hk
      have k3' : evR P (ρA E) c.H li.o.r = .val v c.H := k3
      show evR P (ρA E) c1.H li.o.r = _
      unfold tgtL at hm
      split at hm
      · rename_i y ho
        rw [ho] at k3' hok ⊢
        obtain ⟨o, w, i, q1, q2⟩ := ptr1 hok m hm hk
        simp only [LOp.r, evR] at k3' ⊢
        rw [q1] at k3' ⊢
        dsimp only at k3' ⊢
        rw [readAt_congr q2]
        split at k3'
        · cases k3'; rfl
        · cases k3'
      · rename_i nn y ho
        rw [ho] at k3' hok ⊢
        obtain ⟨o, w, i, q1, q2⟩ := ptr1 hok m hm hk
        simp only [LOp.r, evR] at k3' ⊢
        rw [q1] at k3' ⊢
        dsimp only at k3' ⊢
        rw [readAt_congr q2]
        split at k3'
        · cases k3'; rfl
        · cases k3'
      · rename_i y ho
        rw [ho] at k3' hok ⊢
        have hv := Lx_ok hE hok
        simp only [LOp.r, evR] at k3' ⊢
        generalize y.ev ρ = w at hm hv
        generalize y.r.ev (ρA E) = b at hv k3' ⊢
        have done : (∀ o v i len esz room, b = .sl o v i len esz room → c1.H.get o = c.H.get o) → (match b with
            | .nilSl => OR.val (.str 0 0) c1.H
            | .sl o v i len 1 _ => match readAt c1.H o v i len with
              | some l => match convF.bytesA l with
                | some n => .val (.str len n) c1.H
                | none => .no
              | none => .no
            | _ => .no) = .val v c1.H := by
          intro hh
          split at k3'
          · cases k3'; rfl
          · rename_i o v2 i len room
            have e := hh o v2 i len 1 room rfl
            show (match readAt c1.H o v2 i len with
              | some l => match convF.bytesA l with
                | some n => OR.val (.str len n) c1.H
                | none => .no
              | none => .no) = .val v c1.H
            rw [readAt_congr e]
            split at k3'
            · rename_i hr0
              split at k3'
              · rename_i hb; cases k3'; rw [hr0]; dsimp only; rw [hb]
              · cases k3'
            · cases k3'
          · cases k3'
        split at hm
        · cases hv; exact done (fun _ _ _ _ _ _ e => by cases e)
        · cases hm
          cases hv with
          | lst hf hrm hlen hr hl => exact done (fun _ _ _ _ _ _ e => by cases e; exact (st.le.fz _ hf).2)
          | lstNil => exact done (fun _ _ _ _ _ _ e => by cases e)
          | lstEmp => exact done (fun _ _ _ _ _ _ e => by cases e)
        · rename_i p k
          split at hm
          · rename_i l len esz ver stp hg
            by_cases hkv : k = ver
            · rw [if_pos hkv] at hm
              cases hm
              cases hv with
              | @dy _ _ k' hh _ e hk' ha hsl =>
                have := (hs.obj p _ _ _ hg e).1
                have hha := ha (by omega)
                exact done (fun o v i len esz room eb => hgr (hk p rfl) e (by rw [← hha, eb]; rfl))
            · rw [if_neg hkv] at hm; cases hm
          · cases hm
        · cases hm
      · cases hm
    split at hc
    · rename_i hm; exact fin none hm (fun p e => by cases e)
    · rename_i p hm; exact fin (some p) hm (fun p' e => by cases e; exact hc)
    · exact hc.elim
  | al =>
    rw [hx] at h
    intro g
    have hc := hcore g
    obtain ⟨d, v, id, ob, k1, k2, k3, k4, k5⟩ := h g
    refine ⟨d, v, id, ob, k1, k2, k3, ?_, k5⟩
    have hal : isAl x = true := by unfold isAl; rw [hx]
    unfold ckC at hc
    rw [hal] at hc
    dsimp only at hc
    have hd : li.d = some d := by rw [← k1]; exact g3
    rw [hd] at hc
    dsimp only at hc
    have hv := hE d
    rw [k2] at hv
    split at hc
    · rename_i p i hl
      rw [hl] at hv
      cases hv with
      | ptr e => cases k3; rw [hgr hc e rfl]; exact k4
    · rename_i p k hl
      rw [hl] at hv
      obtain ⟨hc1, hc2⟩ := hc
      split at hc1
      · rename_i l len esz ver stp hg
        cases hv with
        | @dy _ _ k' hh _ e hk' ha hsl =>
          have := (hs.obj p _ _ _ hg e).1
          have hha : v = hh := ha (by omega)
          rw [hgr hc2 e (by rw [← hha]; exact k3)]; exact k4
      · exact hc1.elim
    · exact hc.elim

/-- The checks that are asked are those of operations that lie open. -/
theorem cks_mem : ∀ {pend : List DOp} {cs : List (LI × Bool)}, resCks P n ops pend = some (rck cs) → ∀ {ρ : LEnv} {G G' : LHeap}, cksL ρ G G' cs → ∀ x ∈ pend, ∃ li, resItem P n ops x.o = some li.r ∧ (li, isAl x) ∈ cs ∧ ckL ρ G G' (li, isAl x)
  | [], _, _, _, _, _, _, x, hx => by simp at hx
  | y :: pend, [], h, _, _, _, _, x, hx => by
    simp only [resCks] at h
    split at h
    · cases h
    · split at h <;> cases h
  | y :: pend, (li, b) :: cs, h, ρ, G, G', k, x, hx => by
    simp only [resCks] at h
    split at h
    · cases h
    · rename_i r hr
      split at h
      · cases h
      · rename_i rs hrs
        simp only [rck, Option.some.injEq, List.cons.injEq, Prod.mk.injEq] at h
        obtain ⟨⟨rfl, rfl⟩, h2⟩ := h
        rw [h2] at hrs
        rcases List.mem_cons.1 hx with rfl | hx
        · exact ⟨li, hr, by simp, k.1⟩
        · obtain ⟨li', q1, q2, q3⟩ := cks_mem hrs k.2 x hx
          exact ⟨li', q1, by simp [q2], q3⟩
theorem mem_filterB {α : Type} {f : α → Bool} : ∀ {l : List α} {x : α}, x ∈ filterB f l → x ∈ l
  | [], _, h => h
  | a :: l, x, h => by
    simp only [filterB] at h
    split at h
    · rcases List.mem_cons.1 h with rfl | h
      · simp
      · exact List.mem_cons_of_mem _ (mem_filterB h)
    · exact List.mem_cons_of_mem _ (mem_filterB h)
theorem allB_all {α : Type} {f : α → Bool} : ∀ {l : List α}, allB f l = true → ∀ x ∈ l, f x = true
  | [], _, x, hx => by simp at hx
  | a :: l, h, x, hx => by
    simp only [allB] at h
    split at h
    · rename_i ha
      rcases List.mem_cons.1 hx with rfl | hx
      · exact ha
      · exact allB_all h x hx
    · cases h
theorem rechecks_ok {E : Tr AV} {H : Heap} : ∀ {l : List DOp}, (∀ x ∈ l, (recheck P ops x).run E H = true) → (rechecks P ops l).run E H = true
  | [], _ => rfl
  | x :: l, h => by
    simp only [rechecks]
    rw [h x (by simp)]
    exact rechecks_ok (fun y hy => h y (by simp [hy]))

structure Pend (P : Program) (n : Nat) (ops : Array Oper) (x : DOp) : Prop where
  cls : x.c = .rd ∨ x.c = .al
  own : ownDst ops x = true

theorem drawGo_ok : ∀ {l pend : List DOp} {items : List (LI × List (LI × Bool))} {c : Cx} {G : LHeap} {ρ : LEnv} {E : Tr AV} {K : LEnv → LHeap → Prop}, resGo P n ops l pend = some (rdr items) → (items.all fun x => x.1.o.ok && x.2.all (·.1.o.ok)) = true →
    HSim c G → EnvL c ρ E → (∀ x ∈ pend, Pend P n ops x ∧ Valid P ops x E c.H) → DrL P items ρ G K →
    ∃ m E' c' ρ' G', (drawGo P n ops l pend).run (callA P noO m) E c.H = .ok E' c'.H ∧ HSim c' G' ∧ Step c G c' G' ∧ EnvL c' ρ' E' ∧ K ρ' G'
  | [], pend, items, c, G, ρ, E, K, h, _, hs, hE, _, k => by
    cases items with
    | nil => exact ⟨0, E, c, ρ, G, rfl, hs, .refl c G, hE, k⟩
    | cons _ _ => cases h
  | x :: l, pend, items, c, G, ρ, E, K, h, hok, hs, hE, hp, k => by
    simp only [resGo] at h
    split at h
    · cases h
    · rename_i hchk
      rw [Bool.and_eq_true] at hchk
      obtain ⟨hoff, hcls⟩ := hchk
      split at h
      · cases h
      · rename_i r hr
        -- what the item comes to
        have head : ∀ {li : LI} {cs : List (LI × Bool)} {its : List (LI × List (LI × Bool))}, r = li.r → items = (li, cs) :: its →
            ∃ m E1 c1 ρ1 G1 v, (compOper P n ops x.o).run (callA P noO m) E c.H = .ok E1 c1.H ∧ E1 = putE x.o.dst v E ∧ HSim c1 G1 ∧ Step c G c1 G1 ∧ EnvL c1 ρ1 E1 ∧ cksL ρ G G1 cs ∧ DrL P its ρ1 G1 K := by
          intro li cs its e1 e2
          subst e2
          simp only [List.all_cons, Bool.and_eq_true] at hok
          obtain ⟨m, E1, c1, ρ1, G1, q1, q2, q3, q4, q5, q6⟩ := ItL_ok hs hE hok.1.1 (show ItL P li ρ G (fun ρ' G' => cksL ρ G G' cs ∧ DrL P its ρ' G' K) from k)
          rw [← e1, ← compOper_res hr] at q1
          obtain ⟨v, w1, _⟩ := compOper_shape q1
          exact ⟨m, E1, c1, ρ1, G1, v, q1, w1, q2, q3, q4, q5, q6⟩
        have keepE : ∀ {v : AV}, ∀ y ∈ pend, Valid P ops y E c.H → Valid P ops y (putE x.o.dst v E) c.H := fun y hy hv => hv.put (allB_all hoff y hy) _
        -- going on behind it
        have go : ∀ {pend' : List DOp} {its : List (LI × List (LI × Bool))} {m : Nat} {E1 : Tr AV} {c1 : Cx} {ρ1 : LEnv} {G1 : LHeap}, resGo P n ops l pend' = some (rdr its) → (its.all fun x => x.1.o.ok && x.2.all (·.1.o.ok)) = true → HSim c1 G1 → Step c G c1 G1 → EnvL c1 ρ1 E1 →
            (∀ y ∈ pend', Pend P n ops y ∧ Valid P ops y E1 c1.H) → DrL P its ρ1 G1 K → (compOper P n ops x.o).run (callA P noO m) E c.H = .ok E1 c1.H →
            ∃ m' E' c' ρ' G', (compOper P n ops x.o).run (callA P noO m') E c.H = .ok E1 c1.H ∧ (drawGo P n ops l pend').run (callA P noO m') E1 c1.H = .ok E' c'.H ∧ HSim c' G' ∧ Step c G c' G' ∧ EnvL c' ρ' E' ∧ K ρ' G' := by
          intro pend' its m E1 c1 ρ1 G1 a1 a2 a3 a4 a5 a6 a7 a8
          obtain ⟨m2, E', c', ρ', G', b1, b2, b3, b4, b5⟩ := drawGo_ok a1 a2 a3 a5 a6 a7
          exact ⟨max m m2, E', c', ρ', G', compOper_mono (callA_mono (Nat.le_max_left m m2)) a8, drawGo_mono (callA_mono (Nat.le_max_right m m2)) b1, b2, .trans hs a3 a4 b3, b4, b5⟩
        cases hx : x.c with
        | quiet =>
          rw [hx] at h
          dsimp only at h
          split at h
          · cases h
          · rename_i rs hrs
            cases items with
            | nil => cases h
            | cons it its =>
              obtain ⟨li, cs⟩ := it
              simp only [rdr, Option.some.injEq, List.cons.injEq, Prod.mk.injEq] at h
              obtain ⟨⟨h1, h2⟩, h3⟩ := h
              obtain ⟨m, E1, c1, ρ1, G1, v, q1, q2, q3, q4, q5, q6, q7⟩ := head h1 rfl
              simp only [List.all_cons, Bool.and_eq_true] at hok
              have hH : c1.H = c.H := by
                have hc : cls P x.o.op = .quiet := by
                  rw [hx] at hcls
                  cases hq : cls P x.o.op <;> rw [hq] at hcls <;> first | rfl | cases hcls
                exact compOper_reads (cls_spec.1 hc).reads q1
              obtain ⟨m', E', c', ρ', G', b1, b2, b3, b4, b5, b6⟩ := go (pend' := pend) (by rw [← h3]; exact hrs) hok.2 q3 q4 q5 (fun y hy => ⟨(hp y hy).1, by rw [hH, q2]; exact keepE y hy (hp y hy).2⟩) q7 q1
              refine ⟨m', E', c', ρ', G', ?_, b3, b4, b5, b6⟩
              simp only [drawGo]
              rw [hx]
              dsimp only
              rw [b1]
              exact b2
        | rd =>
          rw [hx] at h
          dsimp only at h
          split at h
          · cases h
          · rename_i hown
            split at h
            · cases h
            · rename_i rs hrs
              cases items with
              | nil => cases h
              | cons it its =>
                obtain ⟨li, cs⟩ := it
                simp only [rdr, Option.some.injEq, List.cons.injEq, Prod.mk.injEq] at h
                obtain ⟨⟨h1, h2⟩, h3⟩ := h
                obtain ⟨m, E1, c1, ρ1, G1, v, q1, q2, q3, q4, q5, q6, q7⟩ := head h1 rfl
                simp only [List.all_cons, Bool.and_eq_true] at hok
                have hc : cls P x.o.op = .rd := by
                  rw [hx] at hcls
                  cases hq : cls P x.o.op <;> rw [hq] at hcls <;> first | rfl | cases hcls
                have hH : c1.H = c.H := compOper_reads (cls_spec.2 hc) q1
                have hself : Valid P ops x E1 c1.H := by
                  unfold Valid
                  rw [hx]
                  intro g
                  unfold ownDst at hown
                  cases hdst : x.o.dst with
                  | none => rw [hdst] at hown; cases hown
                  | some d =>
                    rw [hdst] at hown
                    have hm : memN d (looks ops x.o) = false := by simpa using hown
                    have hsame : Same (looks ops x.o) E1 E := fun t ht _ => by
                      rw [q2, hdst]
                      show getP (pathOf t) (setP v (pathOf d) E) = _
                      rw [get_set_ne (fun q => memN_spec hm (by rw [← q]; exact ht))]
                    rw [guardF_cong hsame] at g
                    refine ⟨d, v, rfl, by rw [q2, hdst]; exact get_putE _ _ _, ?_⟩
                    rw [compOp_cong' hsame, hH]
                    have hq := q1
                    unfold compOper at hq
                    cases hpf : putF n x.o.dst with
                    | none => rw [hpf] at hq; cases hq
                    | some pf =>
                      rw [hpf] at hq
                      dsimp only at hq
                      rw [g] at hq
                      dsimp only at hq
                      have hrd := (cls_spec.2 hc) E c.H
                      cases hr2 : (compOp P x.o.op).run E c.H with
                      | no => rw [hr2] at hq; cases hq
                      | call t a => rw [hr2] at hrd; cases hrd
                      | val w H2 =>
                        rw [hr2] at hq hrd
                        cases hrd
                        injection hq with e1 e2
                        have := congrArg (fun E => getP (pathOf d) E) e1
                        rw [q2, (putF_spec hpf).1, hdst, get_putE, get_putE] at this
                        cases this
                        rfl
                obtain ⟨m', E', c', ρ', G', b1, b2, b3, b4, b5, b6⟩ := go (pend' := x :: pend) (by rw [← h3]; exact hrs) hok.2 q3 q4 q5 (fun y hy => by
                  rcases List.mem_cons.1 hy with rfl | hy
                  · exact ⟨⟨.inl hx, hown⟩, hself⟩
                  · exact ⟨(hp y hy).1, by rw [hH, q2]; exact keepE y hy (hp y hy).2⟩) q7 q1
                refine ⟨m', E', c', ρ', G', ?_, b3, b4, b5, b6⟩
                simp only [drawGo]
                rw [hx]
                dsimp only
                rw [b1]
                exact b2
        | al =>
          rw [hx] at h
          dsimp only at h
          split at h
          · cases h
          · rename_i hown
            split at h
            · cases h
            · rename_i cs' hcs
              split at h
              · cases h
              · rename_i rs hrs
                cases items with
                | nil => cases h
                | cons it its =>
                  obtain ⟨li, cs⟩ := it
                  simp only [rdr, Option.some.injEq, List.cons.injEq, Prod.mk.injEq] at h
                  obtain ⟨⟨h1, h2⟩, h3⟩ := h
                  obtain ⟨m, E1, c1, ρ1, G1, v, q1, q2, q3, q4, q5, q6, q7⟩ := head h1 rfl
                  simp only [List.all_cons, Bool.and_eq_true] at hok
                  have hc : cls P x.o.op = .al := by
                    rw [hx] at hcls
                    cases hq : cls P x.o.op <;> rw [hq] at hcls <;> first | rfl | cases hcls
                  rw [h2] at hcs
                  have hold : ∀ y ∈ pend, Pend P n ops y ∧ Valid P ops y E1 c1.H := fun y hy => by
                    obtain ⟨li', w1, w2, w3⟩ := cks_mem hcs q6 y hy
                    have hliok : li'.o.ok = true := List.all_eq_true.1 hok.1.2 _ w2
                    refine ⟨(hp y hy).1, ?_⟩
                    rw [q2]
                    exact ((hp y hy).2.keep w1 hliok hs hE q4 w3).put (allB_all hoff y hy) _
                  have hself : Valid P ops x E1 c1.H := by
                    unfold Valid
                    rw [hx]
                    intro g
                    unfold ownDst at hown
                    cases hdst : x.o.dst with
                    | none => rw [hdst] at hown; cases hown
                    | some d =>
                      rw [hdst] at hown
                      have hm : memN d (looks ops x.o) = false := by simpa using hown
                      have hsame : Same (looks ops x.o) E1 E := fun t ht _ => by
                        rw [q2, hdst]
                        show getP (pathOf t) (setP v (pathOf d) E) = _
                        rw [get_set_ne (fun q => memN_spec hm (by rw [← q]; exact ht))]
                      rw [guardF_cong hsame] at g
                      have hq := q1
                      unfold compOper at hq
                      cases hpf : putF n x.o.dst with
                      | none => rw [hpf] at hq; cases hq
                      | some pf =>
                        rw [hpf] at hq
                        dsimp only at hq
                        rw [g] at hq
                        dsimp only at hq
                        cases hr2 : (compOp P x.o.op).run E c.H with
                        | no => rw [hr2] at hq; cases hq
                        | call t a =>
                          exfalso
                          have := cls_mk (o := x.o) hc E c.H
                          rw [hr2] at this
                          exact this
                        | val w H2 =>
                          rw [hr2] at hq
                          injection hq with e1 e2
                          have := congrArg (fun E => getP (pathOf d) E) e1
                          rw [q2, (putF_spec hpf).1, hdst, get_putE, get_putE] at this
                          cases this
                          obtain ⟨ob, u1, u2, u3⟩ := al_any hc hr2
                          refine ⟨d, _, c.H.next, ob, rfl, by rw [q2, hdst]; exact get_putE _ _ _, u2, ?_, fun H3 => by rw [compOp_cong' hsame]; exact u3 H3⟩
                          rw [← e2, u1]
                          exact Heap.get_push_same _ _
                  obtain ⟨m', E', c', ρ', G', b1, b2, b3, b4, b5, b6⟩ := go (pend' := x :: pend) (by rw [← h3]; exact hrs) hok.2 q3 q4 q5 (fun y hy => by
                    rcases List.mem_cons.1 hy with rfl | hy
                    · exact ⟨⟨.inr hx, hown⟩, hself⟩
                    · exact hold y hy) q7 q1
                  refine ⟨m', E', c', ρ', G', ?_, b3, b4, b5, b6⟩
                  simp only [drawGo]
                  rw [hx]
                  dsimp only
                  rw [b1]
                  dsimp only
                  rw [rechecks_ok (fun y hy => by
                    rcases List.mem_cons.1 hy with rfl | hy
                    · exact valid_recheck hself (.inr hx) hown
                    · exact valid_recheck (hold y hy).2 (hold y hy).1.cls (hold y hy).1.own)]
                  exact b2
        | ch =>
          rw [hx] at h
          dsimp only at h
          split at h
          · cases h
          · rename_i cs' hcs
            split at h
            · cases h
            · rename_i rs hrs
              cases items with
              | nil => cases h
              | cons it its =>
                obtain ⟨li, cs⟩ := it
                simp only [rdr, Option.some.injEq, List.cons.injEq, Prod.mk.injEq] at h
                obtain ⟨⟨h1, h2⟩, h3⟩ := h
                obtain ⟨m, E1, c1, ρ1, G1, v, q1, q2, q3, q4, q5, q6, q7⟩ := head h1 rfl
                simp only [List.all_cons, Bool.and_eq_true] at hok
                rw [h2] at hcs
                have hold : ∀ y ∈ filterB (fun y => !(Nat.testBit x.m y.i)) pend, Pend P n ops y ∧ Valid P ops y E1 c1.H := fun y hy => by
                  have hy' := mem_filterB hy
                  obtain ⟨li', w1, w2, w3⟩ := cks_mem hcs q6 y hy
                  have hliok : li'.o.ok = true := List.all_eq_true.1 hok.1.2 _ w2
                  refine ⟨(hp y hy').1, ?_⟩
                  rw [q2]
                  exact ((hp y hy').2.keep w1 hliok hs hE q4 w3).put (allB_all hoff y hy') _
                obtain ⟨m', E', c', ρ', G', b1, b2, b3, b4, b5, b6⟩ := go (pend' := filterB (fun y => !(Nat.testBit x.m y.i)) pend) (by rw [← h3]; exact hrs) hok.2 q3 q4 q5 hold q7 q1
                refine ⟨m', E', c', ρ', G', ?_, b3, b4, b5, b6⟩
                simp only [drawGo]
                rw [hx]
                dsimp only
                rw [b1]
                dsimp only
                rw [rechecks_ok (fun y hy => valid_recheck (hold y hy).2 (hold y hy).1.cls (hold y hy).1.own)]
                exact b2
end draw

section rule
variable {P : Program} {f n : Nat} {ro : Option Nat} {ρ : LEnv} {D : List Nat} {G : LHeap} {Q : Post}
theorem W_draw {l : List (LI × List (LI × Bool))} (h : DrL P l ρ G fun ρ' G' => Q .normal ρ' D G') : W P f n (.draw l) ro ρ D G Q := by
  intro code c E D1 ro1 h1 h2 h3 h4 h5 h6
  obtain ⟨id, ops, rfl, hr⟩ := inv_draw h1
  unfold resDraw at hr
  dsimp only at hr
  split at hr
  · rename_i hd
    obtain ⟨m, E', c', ρ', G', q1, q2, q3, q4, q5⟩ := drawGo_ok hr h2 h3 h4 (fun x hx => by simp at hx) h
    refine ⟨m, .normal, E', D1, c', ρ', D, G', ?_, q2, q3, q4, h5.mono q3.le, q5⟩
    simp only [compCode, compDraw]
    rw [hd]
    dsimp only
    rw [q1]
  · cases hr
end rule
end Go.Sv
