/- Calls of known answers, what is handed in and out may be rows of rows: a great closed run is split where it calls. -/
import Derived.Test.YtnlnmpjdcopngaaGreatSvDeep
namespace Go.Sv
open Go.RowKit (Below)
set_option linter.unusedSimpArgs false
set_option linter.unusedVariables false

inductive DA where
  | one (d : DT)
  | agg (ds : DTs)
inductive DX where
  | val (d : DA)
  | tup (l : List DA)
inductive AAt (w : World) : DA → Value → List Nat → Prop where
  | one {d : DT} {x : Value} {bs : List Nat} (h : DAt w d x bs) : AAt w (.one d) x bs
  | agg {ds : DTs} {vs : Array Value} {bs : List Nat} (h : DAts w ds vs.toList bs) : AAt w (.agg ds) (.agg vs) bs
inductive AAts (w : World) : List DA → List Value → List Nat → Prop where
  | nil : AAts w [] [] []
  | cons {d : DA} {r : List DA} {x : Value} {l : List Value} {bs cs : List Nat} (h : AAt w d x bs) (k : AAts w r l cs) : AAts w (d :: r) (x :: l) (bs ++ cs)
inductive RAt (w : World) : DX → Value → List Nat → Prop where
  | val {d : DA} {x : Value} {bs : List Nat} (h : AAt w d x bs) : RAt w (.val d) x bs
  | tup {l : List DA} {vs : Array Value} {bs : List Nat} (h : AAts w l vs.toList bs) : RAt w (.tup l) (.tuple vs) bs
noncomputable def layA : DA → Heap → AV × Heap
  | .one d, H => layD d H
  | .agg ds, H => match layDs ds H with
    | (l, H1) => (.agg l, H1)
noncomputable def layAs : List DA → Heap → List AV × Heap
  | [], H => ([], H)
  | d :: r, H => match layA d H with
    | (a, H1) => match layAs r H1 with
      | (l, H2) => (a :: l, H2)
noncomputable def layR : DX → Heap → AV × Heap
  | .val d, H => layA d H
  | .tup l, H => match layAs l H with
    | (l, H1) => (.tup l, H1)
noncomputable def seeA (own : Bool) (H : Heap) : DA → AV → Option (List Nat)
  | .one d, a => seeD own H d a
  | .agg ds, .agg l => seeDs own H ds l
  | _, _ => none
noncomputable def seeAs (own : Bool) (H : Heap) : List DA → List AV → Option (List Nat)
  | [], [] => some []
  | d :: r, a :: l => match seeA own H d a with
    | some p => (match seeAs own H r l with
      | some q => some (p ++ q)
      | none => none)
    | none => none
  | _, _ => none
noncomputable def seeR (own : Bool) (H : Heap) : DX → AV → Option (List Nat)
  | .val d, a => seeA own H d a
  | .tup ds, .tup l => seeAs own H ds l
  | _, _ => none
theorem Free.left {B : Nat} {C : CM} {bs cs : List Nat} (h : Free B C (bs ++ cs)) : Free B C bs := ⟨(List.pairwise_append.1 h.nd).1, fun b hb => h.fr b (List.mem_append_left _ hb)⟩
theorem Free.right {B : Nat} {C C1 : CM} {bs cs : List Nat} (h : Free B C (bs ++ cs)) (k : Only C C1 bs) : Free B C1 cs := by
  obtain ⟨_, n2, n3⟩ := List.pairwise_append.1 h.nd
  refine ⟨n2, fun b hb hB o v L e => ?_⟩
  rcases k o v L e with e | e
  · exact h.fr b (List.mem_append_right _ hb) hB o v L e
  · intro q
    subst q
    exact n3 _ e _ hb hB rfl
section lay
variable {w0 w : World} {C : CM} {H : Heap}
theorem layA_ok (h : Rel w0 C H w) {d : DA} {x : Value} {bs : List Nat} (hd : AAt w d x bs) (hf : Free w0.heap.size C bs) : ∃ C', Rel w0 C' (layA d H).2 w ∧ C.le C' ∧ VR C' (layA d H).1 x ∧ Only C C' bs := by
  cases hd with
  | one hd =>
    obtain ⟨C', h1, h2, h3, _, h5⟩ := layD_ok h hd hf
    exact ⟨C', h1, h2, h3, h5⟩
  | agg hd =>
    obtain ⟨C', h1, h2, h3, h4, h5⟩ := layDs_ok h hd hf
    exact ⟨C', h1, h2, .agg h3 h4, h5⟩
theorem layAs_ok : ∀ {C : CM} {H : Heap}, Rel w0 C H w → ∀ {d : List DA} {x : List Value} {bs : List Nat}, AAts w d x bs → Free w0.heap.size C bs → ∃ C', Rel w0 C' (layAs d H).2 w ∧ C.le C' ∧ VRs C' (layAs d H).1 x ∧ Only C C' bs
  | C, H, h, _, _, _, .nil, _ => ⟨C, h, CM.le_refl C, .nil, fun _ _ _ e => .inl e⟩
  | C, H, h, _, _, _, .cons (d := d) (r := r) h1 k, hf => by
    obtain ⟨C1, hR, hle, hV, hon⟩ := layA_ok h h1 hf.left
    simp only [layAs]
    generalize layA d H = p at *
    obtain ⟨a, H1⟩ := p
    simp only at hR hV ⊢
    obtain ⟨C2, hR2, hle2, hV2, hon2⟩ := layAs_ok hR k (hf.right hon)
    generalize layAs r H1 = p at *
    obtain ⟨l2, H2⟩ := p
    simp only at hR2 hV2 ⊢
    refine ⟨C2, hR2, CM.le_trans hle hle2, .cons (hV.mono hle2) hV2, fun o v L e' => ?_⟩
    rcases hon2 o v L e' with e' | e'
    · exact (hon o v L e').imp id (List.mem_append_left _)
    · exact .inr (List.mem_append_right _ e')
theorem layR_ok (h : Rel w0 C H w) {d : DX} {x : Value} {bs : List Nat} (hd : RAt w d x bs) (hf : Free w0.heap.size C bs) : ∃ C', Rel w0 C' (layR d H).2 w ∧ C.le C' ∧ VR C' (layR d H).1 x := by
  cases hd with
  | val hd =>
    obtain ⟨C', h1, h2, h3, _⟩ := layA_ok h hd hf
    exact ⟨C', h1, h2, h3⟩
  | tup hd =>
    obtain ⟨C', h1, h2, h3, _⟩ := layAs_ok h hd hf
    exact ⟨C', h1, h2, .tup h3⟩
variable {own : Bool}
theorem seeA_ok {P : Program} (h : Rel w0 C H w) {d : DA} {a : AV} {x : Value} {ids : List Nat} (hv : VR C a x) (hs : seeA own H d a = some ids) : ∃ bs, AAt w d x bs ∧ Bd C ids bs ∧ (own = true → ∀ b ∈ bs, w0.heap.size ≤ b) := by
  unfold seeA at hs
  split at hs
  · obtain ⟨bs, h1, h2⟩ := seeD_ok (P := P) h hv hs
    exact ⟨bs, .one h1, h2⟩
  · cases hv with
    | agg hv _ =>
      obtain ⟨bs, h1, h2⟩ := seeDs_ok (P := P) h hv hs
      exact ⟨bs, .agg h1, h2⟩
  · cases hs
theorem seeAs_ok {P : Program} (h : Rel w0 C H w) : ∀ {d : List DA} {a : List AV} {x : List Value} {ids : List Nat}, VRs C a x → seeAs own H d a = some ids → ∃ bs, AAts w d x bs ∧ Bd C ids bs ∧ (own = true → ∀ b ∈ bs, w0.heap.size ≤ b)
  | [], [], _, _, .nil, hs => by
    simp only [seeAs] at hs
    cases hs
    exact ⟨[], .nil, .nil, fun _ b hb => by cases hb⟩
  | d :: r, a :: l, _, ids, .cons hv hvs, hs => by
    simp only [seeAs] at hs
    split at hs
    · rename_i p hp
      split at hs
      · rename_i q hq
        cases hs
        obtain ⟨bs, k1, k2, k3⟩ := seeA_ok (P := P) h hv hp
        obtain ⟨cs, m1, m2, m3⟩ := seeAs_ok (P := P) h hvs hq
        exact ⟨bs ++ cs, .cons k1 m1, k2.append m2, fun ho b hb => (List.mem_append.1 hb).elim (k3 ho b) (m3 ho b)⟩
      · cases hs
    · cases hs
  | [], _ :: _, _, _, _, hs => by simp [seeAs] at hs
  | _ :: _, [], _, _, _, hs => by simp [seeAs] at hs
theorem seeR_ok {P : Program} (h : Rel w0 C H w) {d : DX} {a : AV} {x : Value} {ids : List Nat} (hv : VR C a x) (hs : seeR own H d a = some ids) : ∃ bs, RAt w d x bs ∧ Bd C ids bs ∧ (own = true → ∀ b ∈ bs, w0.heap.size ≤ b) := by
  unfold seeR at hs
  split at hs
  · obtain ⟨bs, h1, h2⟩ := seeA_ok (P := P) h hv hs
    exact ⟨bs, .val h1, h2⟩
  · cases hv with
    | tup hv =>
      obtain ⟨bs, h1, h2⟩ := seeAs_ok (P := P) h hv hs
      exact ⟨bs, .tup h1, h2⟩
  · cases hs
end lay
/-! ### Blocks are there -/
mutual
theorem DAt.lt {w : World} : ∀ {d : DT} {x : Value} {bs : List Nat}, DAt w d x bs → ∀ b ∈ bs, b < w.heap.size
  | _, _, _, .fl _ _, b, hb => by cases hb
  | _, _, _, .row hc _ _ h3 _ _ _ _, b, hb => by
    rcases List.mem_cons.1 hb with rfl | hb
    · exact h3
    · exact DAts.lt hc b hb
theorem DAts.lt {w : World} : ∀ {d : DTs} {x : List Value} {bs : List Nat}, DAts w d x bs → ∀ b ∈ bs, b < w.heap.size
  | _, _, _, .nil, b, hb => by cases hb
  | _, _, _, .cons h k, b, hb => (List.mem_append.1 hb).elim (DAt.lt h b) (DAts.lt k b)
end
theorem AAt.lt {w : World} {d : DA} {x : Value} {bs : List Nat} (h : AAt w d x bs) : ∀ b ∈ bs, b < w.heap.size := by
  cases h with
  | one h => exact h.lt
  | agg h => exact h.lt
theorem AAts.lt {w : World} : ∀ {d : List DA} {x : List Value} {bs : List Nat}, AAts w d x bs → ∀ b ∈ bs, b < w.heap.size
  | _, _, _, .nil, b, hb => by cases hb
  | _, _, _, .cons h k, b, hb => (List.mem_append.1 hb).elim (h.lt b) (AAts.lt k b)
theorem free_low {B : Nat} {C : CM} {bs : List Nat} (h : ∀ b ∈ bs, b < B) : Free B C bs := by
  refine ⟨?_, fun b hb hB => by have := h b hb; omega⟩
  induction bs with
  | nil => exact .nil
  | cons a l ih => exact .cons (fun b hb hB => by have := h a (by simp); omega) (ih fun b hb => h b (List.mem_cons_of_mem _ hb))
theorem free_new {B : Nat} {C : CM} {bs : List Nat} {n : Nat} (hn : bs.Nodup) (h : ∀ b ∈ bs, n ≤ b) (k : ∀ o v L, C o v = some L → L.b < n) : Free B C bs := by
  refine ⟨List.Pairwise.imp (R := (· ≠ ·)) (S := fun a b => B ≤ a → a ≠ b) (fun h _ => h) hn, fun b hb _ o v L e q => ?_⟩
  have h1 := h b hb
  have h2 := k o v L e
  omega
/-! ### Facts -/
structure Fact3 where
  f : Nat
  args : List DA
  v : DX
def Fact3.Right (P : Program) (F : Fact3) : Prop := ∀ (w : World) (vs : List Value) (bs : List Nat), AAts w F.args vs bs → ∀ cs, ∃ w' fr x bs', Below w.heap.size w w' ∧ Steps P (lone (Frame.enter P F.f vs.toArray .normal) cs w) (lone fr cs w') ∧ fr.fn = F.f ∧ fr.leaving P w' (.returned x) ∧
  RAt w' F.v x bs' ∧ bs'.Nodup ∧ ∀ b ∈ bs', w.heap.size ≤ b
noncomputable def memN (n : Nat) : List Nat → Bool
  | [] => false
  | m :: l => Nat.beq n m || memN n l
noncomputable def nodupN : List Nat → Bool
  | [] => true
  | m :: l => !memN m l && nodupN l
theorem memN_ok {n : Nat} : ∀ {l : List Nat}, memN n l = false → n ∉ l
  | [], _ => by simp
  | m :: l, h => by
    simp only [memN, Bool.or_eq_false_iff] at h
    intro k
    rcases List.mem_cons.1 k with rfl | k
    · have := h.1; simp at this
    · exact memN_ok h.2 k
theorem nodupN_ok : ∀ {l : List Nat}, nodupN l = true → l.Nodup
  | [], _ => List.nodup_nil
  | m :: l, h => by
    simp only [nodupN, Bool.and_eq_true, Bool.not_eq_true'] at h
    exact List.nodup_cons.2 ⟨memN_ok h.1, nodupN_ok h.2⟩
noncomputable def runF3 (P : Program) (O : CallT) (m : Nat) (F : Fact3) : Bool := match layAs F.args ⟨.e, 0⟩ with
  | (l, H) => match callA P O m (.fn F.f) l H with
    | .ok v H' => (match seeR true H' F.v v with
      | some ids => nodupN ids
      | none => false)
    | _ => false
theorem fact3_of_run {P : Program} (hm : P.follows .mixedOrders = true) {O : CallT} (hO : SoundCall P O) {m : Nat} {F : Fact3} (h : runF3 P O m F = true) : F.Right P := by
  intro w vs bs ha cs
  obtain ⟨C, hR, _, hV, _⟩ := layAs_ok (Rel.start w) ha (free_low ha.lt)
  unfold runF3 at h
  generalize layAs F.args ⟨.e, 0⟩ = p at *
  obtain ⟨l, H⟩ := p
  simp only at h hR hV
  split at h
  · rename_i v H' hr
    split at h
    · rename_i ids hs
      obtain ⟨C', w', v', fr, k1, k2, k3, k4, k5, k6⟩ := callA_sound hm hO m w _ _ w (.fn F.f) _ vs _ _ hR hV hr cs
      obtain ⟨bs', m1, m2, m3⟩ := seeR_ok (P := P) k2 k3 hs
      exact ⟨w', fr, v', bs', k2.low, k4, k5, k6, m1, m2.nodup k2 (nodupN_ok h) (m3 rfl), m3 rfl⟩
    · cases h
  · cases h
noncomputable def findD (f : Nat) (args : List AV) (H : Heap) : List Fact3 → Option DX
  | [] => none
  | F :: L => if Nat.beq f F.f then (match seeAs false H F.args args with
    | some _ => some F.v
    | none => findD f args H L) else findD f args H L
theorem findD_ok {f : Nat} {args : List AV} {H : Heap} {v : DX} : ∀ {L : List Fact3}, findD f args H L = some v → ∃ F ∈ L, F.f = f ∧ (∃ ids, seeAs false H F.args args = some ids) ∧ F.v = v
  | [], h => by cases h
  | F :: L, h => by
    unfold findD at h
    split at h
    · rename_i g
      split at h
      · rename_i ids hs
        cases h
        exact ⟨F, by simp, (Nat.eq_of_beq_eq_true g).symm, ⟨ids, hs⟩, rfl⟩
      · obtain ⟨F', h1, h2⟩ := findD_ok h
        exact ⟨F', List.mem_cons_of_mem _ h1, h2⟩
    · obtain ⟨F', h1, h2⟩ := findD_ok h
      exact ⟨F', List.mem_cons_of_mem _ h1, h2⟩
noncomputable def factD (L : List Fact3) : CallT := fun t args H => match t with
  | .fn f => match findD f args H L with
    | some v => (match layR v H with
      | (a, H') => .ok a H')
    | none => .no
  | _ => .no
theorem factD_sound {P : Program} {L : List Fact3} (hL : ∀ F ∈ L, F.Right P) : SoundCall P (factD L) := by
  intro w0 C H w t args vs v H' hR hV hc
  unfold factD at hc
  split at hc
  · rename_i f
    split at hc
    · rename_i d hf
      obtain ⟨F, h1, rfl, ⟨ids, hs⟩, rfl⟩ := findD_ok hf
      obtain ⟨bs, k1, _, _⟩ := seeAs_ok (P := P) hR hV hs
      intro cs
      obtain ⟨w', fr, x, bs', m1, m2, m3, m4, m5, m6, m7⟩ := hL F h1 w vs bs k1 cs
      obtain ⟨C', n1, n2, n3⟩ := layR_ok (hR.below0 m1) m5 (free_new m6 m7 hR.lt)
      generalize layR F.v H = p at *
      obtain ⟨a, H2⟩ := p
      simp only at hc n1 n3
      cases hc
      exact ⟨C', w', x, fr, n2, n1, n3, m2, m3, m4⟩
    · cases hc
  · cases hc
end Go.Sv
