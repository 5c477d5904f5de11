/- Calls whose own closed runs are known to be right are taken as done; what is handed in and out may be rows of rows. -/
import Derived.Test.YtnlnmpjdcopngaaGreatSvFact2
namespace Go.Sv
open Go.RowKit (Below)
set_option linter.unusedSimpArgs false
set_option linter.unusedVariables false

/-! ### Deep values -/
mutual
inductive DT where
  | fl (a : AV)
  | row (esz len : Nat) (cs : DTs)
inductive DTs where
  | nil
  | cons (d : DT) (r : DTs)
end
noncomputable def DTs.length : DTs → Nat
  | .nil => 0
  | .cons _ r => r.length + 1
mutual
/-- Laid into a heap: rows that nobody turns. -/
noncomputable def layD : DT → Heap → AV × Heap
  | .fl a, H => (a, H)
  | .row esz len cs, H => match layDs cs H with
    | (l, H1) => (.sl H1.next 0 0 len esz none, H1.push (.cells (ofListFrom l 0 .e) l.length 0 true))
noncomputable def layDs : DTs → Heap → List AV × Heap
  | .nil, H => ([], H)
  | .cons d r, H => match layD d H with
    | (a, H1) => match layDs r H1 with
      | (l, H2) => (a :: l, H2)
end
mutual
/-- What a value in memory is; the blocks of its rows. -/
inductive DAt (w : World) : DT → Value → List Nat → Prop where
  | fl {a : AV} {x : Value} (h : flat0 a = true) (k : ∀ C, VR C a x) : DAt w (.fl a) x []
  | row {esz len : Nat} {cs : DTs} {b off cap : Nat} {us : List Value} {bs : List Nat} {vs : Array Value} {e : TypeId} {lo hi : Nat} (hc : DAts w cs us bs) (h1 : len ≤ cap) (h2 : us.length = len * esz) (h3 : b < w.heap.size) (h4 : w.heap[b]? = some (.cells vs e (lo, hi)))
      (h5 : off + cap * esz ≤ vs.size) (h6 : ∀ q, off ≤ q → q < off + cap * esz → ¬ (lo ≤ q ∧ q < hi)) (h7 : ∀ q, q < us.length → vs[off + q]? = us[q]?) : DAt w (.row esz len cs) (.slice (some ⟨b, off, none⟩) len cap) (b :: bs)
inductive DAts (w : World) : DTs → List Value → List Nat → Prop where
  | nil : DAts w .nil [] []
  | cons {d : DT} {r : DTs} {x : Value} {l : List Value} {bs cs : List Nat} (h : DAt w d x bs) (k : DAts w r l cs) : DAts w (.cons d r) (x :: l) (bs ++ cs)
end
/-- No two blocks of one's own are one, and nothing is bound to them. -/
structure Free (B : Nat) (C : CM) (bs : List Nat) : Prop where
  nd : bs.Pairwise fun a b => B ≤ a → a ≠ b
  fr : ∀ b ∈ bs, B ≤ b → ∀ o v L, C o v = some L → L.b ≠ b
theorem Rel.ro3 {w0 w : World} {C : CM} {H : Heap} (h : Rel w0 C H w) {L : Loc} (hL : L.b < w.heap.size) (hfr : w0.heap.size ≤ L.b → ∀ o v L', C o v = some L' → L'.b ≠ L.b) {l : List AV} (hob : C.le (C.ext H.next 0 L) → ObjR w0.heap.size (C.ext H.next 0 L) w H.next (.cells (ofListFrom l 0 .e) l.length 0 true)) :
    Rel w0 (C.ext H.next 0 L) (H.push (.cells (ofListFrom l 0 .e) l.length 0 true)) w ∧ C.le (C.ext H.next 0 L) := by
  have hle : C.le (C.ext H.next 0 L) := CM.le_ext _ (h.next_none 0) (.inr (Nat.le_of_eq h.nx))
  refine ⟨⟨by show max C.nx (H.next + 1) = H.next + 1; rw [h.nx]; exact Nat.max_eq_right (Nat.le_succ _), h.low, ?_, ?_, ?_, ?_, ?_⟩, hle⟩
  · intro o v L' hL'
    show o < H.next + 1
    by_cases e : o = H.next ∧ v = 0
    · omega
    · rw [CM.ext_ne _ _ e] at hL'; have := h.fresh _ _ _ hL'; omega
  · intro o v L' hL'
    by_cases e : o = H.next ∧ v = 0
    · obtain ⟨rfl, rfl⟩ := e; rw [CM.ext_same] at hL'; cases hL'; exact hL
    · rw [CM.ext_ne _ _ e] at hL'; exact h.lt _ _ _ hL'
  · intro o v L1 o' v' L2 h1 h2 hb hB
    by_cases e : o = H.next ∧ v = 0
    · by_cases e' : o' = H.next ∧ v' = 0
      · omega
      · obtain ⟨rfl, rfl⟩ := e
        rw [CM.ext_same] at h1; cases h1
        rw [CM.ext_ne _ _ e'] at h2
        exact absurd hb.symm (hfr hB _ _ _ h2)
    · by_cases e' : o' = H.next ∧ v' = 0
      · obtain ⟨rfl, rfl⟩ := e'
        rw [CM.ext_same] at h2; cases h2
        rw [CM.ext_ne _ _ e] at h1
        exact absurd hb (hfr (hb ▸ hB) _ _ _ h1)
      · rw [CM.ext_ne _ _ e] at h1; rw [CM.ext_ne _ _ e'] at h2; exact h.excl _ _ _ _ _ _ h1 h2 hb hB
  · intro o ob ho hg
    by_cases e : o = H.next
    · subst e; rw [Heap.get_push_same] at hg; cases hg; exact hob hle
    · have ho' : o < H.next := by have : o < H.next + 1 := ho; omega
      rw [Heap.get_push_ne _ _ ho'] at hg
      refine (h.obj _ _ ho' hg).frame hle (fun v L' hL' => ?_) (fun _ _ _ => rfl)
      rwa [CM.ext_ne _ _ (by omega)] at hL'
  · intro o c len ver ro ho hg v L' hL'
    by_cases e : o = H.next
    · subst e
      by_cases ev : v = 0
      · omega
      · rw [CM.ext_ne _ _ (by omega)] at hL'; have := h.fresh _ _ _ hL'; omega
    · have ho' : o < H.next := by have : o < H.next + 1 := ho; omega
      rw [Heap.get_push_ne _ _ ho'] at hg
      rw [CM.ext_ne _ _ (by omega)] at hL'
      exact h.top _ _ _ _ _ ho' hg _ _ hL'
/-- What is bound anew is bound to these blocks. -/
def Only (C C' : CM) (bs : List Nat) : Prop := ∀ o v L, C' o v = some L → C o v = some L ∨ L.b ∈ bs
mutual
theorem layD_ok {w0 w : World} {C : CM} {H : Heap} (h : Rel w0 C H w) : ∀ {d : DT} {x : Value} {bs : List Nat}, DAt w d x bs → Free w0.heap.size C bs →
    ∃ C', Rel w0 C' (layD d H).2 w ∧ C.le C' ∧ VR C' (layD d H).1 x ∧ (layD d H).1.one = true ∧ Only C C' bs
  | _, _, _, .fl h1 k, _ => ⟨C, by simpa only [layD] using h, CM.le_refl C, by simpa only [layD] using k C, by simpa only [layD] using one_flat h1, fun _ _ _ e => .inl e⟩
  | .row esz len cs, _, _, .row (b := b) (off := off) (cap := cap) (us := us) (bs := bs) (vs := vs) (e := e) (lo := lo) (hi := hi) hc h1 h2 h3 h4 h5 h6 h7, hf => by
    obtain ⟨nd, fr⟩ := hf
    obtain ⟨nd1, nd2⟩ := List.pairwise_cons.1 nd
    obtain ⟨C1, hR, hle, hV, ho, hon⟩ := layDs_ok h hc ⟨nd2, fun b' hb' => fr b' (List.mem_cons_of_mem _ hb')⟩
    simp only [layD]
    generalize layDs cs H = p at *
    obtain ⟨l, H1⟩ := p
    simp only at hR hV ho ⊢
    have hll : l.length = len * esz := by rw [hV.length, h2]
    have hmul : len * esz ≤ cap * esz := Nat.mul_le_mul_right _ h1
    obtain ⟨hR2, hle2⟩ := hR.ro3 (L := ⟨b, off, l.length, off + cap * esz⟩) h3 (fun hB o v L' e' => by
      rcases hon o v L' e' with e' | e'
      · exact fr b (by simp) hB o v L' e'
      · exact fun q => nd1 _ e' hB q.symm) (l := l) (fun hle' L hL => by
      rw [CM.ext_same] at hL
      cases hL
      refine ⟨rfl, fun e => (by cases e), by show off + l.length ≤ off + cap * esz; omega, vs, e, lo, hi, h4, h5, fun q q1 q2 => h6 q q1 q2, fun q hq => ?_⟩
      obtain ⟨a, u, c1, c2, c3⟩ := hV.get' hq
      refine ⟨a, by rw [get_ofList, if_pos (by omega)]; simpa using c1, ho a (List.mem_of_getElem? c1), u, ?_, c3.mono hle'⟩
      rw [h7 q (by omega)]; exact c2)
    refine ⟨_, hR2, CM.le_trans hle hle2, ?_, rfl, fun o v L' e' => ?_⟩
    · exact VR.sl (L := ⟨b, off, l.length, off + cap * esz⟩) (i := 0) (CM.ext_same _ _ _ _) (by dsimp only; omega) (by dsimp only; omega) h1 (fun r e => by cases e) (fun _ => by dsimp only; omega)
    · by_cases q : o = H1.next ∧ v = 0
      · obtain ⟨rfl, rfl⟩ := q
        rw [CM.ext_same] at e'; cases e'
        exact .inr (by simp)
      · rw [CM.ext_ne _ _ q] at e'
        exact (hon o v L' e').imp id (List.mem_cons_of_mem _)
theorem layDs_ok {w0 w : World} {C : CM} {H : Heap} (h : Rel w0 C H w) : ∀ {d : DTs} {x : List Value} {bs : List Nat}, DAts w d x bs → Free w0.heap.size C bs →
    ∃ C', Rel w0 C' (layDs d H).2 w ∧ C.le C' ∧ VRs C' (layDs d H).1 x ∧ (∀ a ∈ (layDs d H).1, a.one = true) ∧ Only C C' bs
  | _, _, _, .nil, _ => ⟨C, by simpa only [layDs] using h, CM.le_refl C, by simp only [layDs]; exact .nil, by simp [layDs], fun _ _ _ e => .inl e⟩
  | .cons d r, _, _, .cons (x := x) (l := l) (bs := bs) (cs := cs) h1 k, hf => by
    obtain ⟨nd, fr⟩ := hf
    obtain ⟨nd1, nd2, nd3⟩ := List.pairwise_append.1 nd
    obtain ⟨C1, hR, hle, hV, ho, hon⟩ := layD_ok h h1 ⟨nd1, fun b' hb' => fr b' (List.mem_append_left _ hb')⟩
    simp only [layDs]
    generalize layD d H = p at *
    obtain ⟨a, H1⟩ := p
    simp only at hR hV ho ⊢
    obtain ⟨C2, hR2, hle2, hV2, ho2, hon2⟩ := layDs_ok hR k ⟨nd2, fun b' hb' hB o v L e' => by
      rcases hon o v L e' with e' | e'
      · exact fr b' (List.mem_append_right _ hb') hB o v L e'
      · intro q
        subst q
        exact nd3 _ e' _ hb' hB rfl⟩
    generalize layDs r H1 = p at *
    obtain ⟨l2, H2⟩ := p
    simp only at hR2 hV2 ho2 ⊢
    refine ⟨C2, hR2, CM.le_trans hle hle2, .cons (hV.mono hle2) hV2, fun z hz => ?_, fun o v L e' => ?_⟩
    · rcases List.mem_cons.1 hz with rfl | hz
      · exact ho
      · exact ho2 z hz
    · rcases hon2 o v L e' with e' | e'
      · exact (hon o v L e').imp id (List.mem_append_left _)
      · exact .inr (List.mem_append_right _ e')
end

/-! ### Seen in a heap -/
mutual
/-- Whether a value is so; the objects of its rows. -/
noncomputable def seeD (own : Bool) (H : Heap) : DT → AV → Option (List Nat)
  | .fl d, a => if flat0 d && eq0 a d then some [] else none
  | .row esz len cs, a => match a with
    | .sl o v i len' esz' _ => if Nat.beq esz' esz && (Nat.beq len' len && Nat.beq cs.length (Nat.mul len esz)) then (match H.get o with
        | some (.cells _ _ _ ro) => if own && ro then none else (match readAt H o v i (Nat.mul len esz) with
          | some l => (match seeDs own H cs l with
            | some ids => some (o :: ids)
            | none => none)
          | none => none)
        | _ => none) else none
    | _ => none
noncomputable def seeDs (own : Bool) (H : Heap) : DTs → List AV → Option (List Nat)
  | .nil, [] => some []
  | .cons d r, a :: l => match seeD own H d a with
    | some p => (match seeDs own H r l with
      | some q => some (p ++ q)
      | none => none)
    | none => none
  | _, _ => none
end
/-- The objects' blocks. -/
inductive Bd (C : CM) : List Nat → List Nat → Prop where
  | nil : Bd C [] []
  | cons {o b v : Nat} {L : Loc} {l r : List Nat} (h : C o v = some L) (h1 : L.b = b) (k : Bd C l r) : Bd C (o :: l) (b :: r)
theorem Bd.append {C : CM} : ∀ {l r l' r' : List Nat}, Bd C l r → Bd C l' r' → Bd C (l ++ l') (r ++ r')
  | _, _, _, _, .nil, k => k
  | _, _, _, _, .cons h h1 hs, k => .cons h h1 (Bd.append hs k)
theorem Bd.mem {C : CM} {b : Nat} : ∀ {l r : List Nat}, Bd C l r → b ∈ r → ∃ o ∈ l, ∃ v L, C o v = some L ∧ L.b = b
  | _, _, .nil, h => by cases h
  | _, _, .cons h h1 hs, k => by
    rcases List.mem_cons.1 k with rfl | k
    · exact ⟨_, by simp, _, _, h, h1⟩
    · obtain ⟨o, h2, h3⟩ := Bd.mem hs k
      exact ⟨o, List.mem_cons_of_mem _ h2, h3⟩
theorem Bd.nodup {w0 w : World} {C : CM} {H : Heap} (h : Rel w0 C H w) : ∀ {l r : List Nat}, Bd C l r → l.Nodup → (∀ b ∈ r, w0.heap.size ≤ b) → r.Nodup
  | _, _, .nil, _, _ => List.nodup_nil
  | _, _, .cons h2 h1 hs, hn, hB => by
    obtain ⟨n1, n2⟩ := List.nodup_cons.1 hn
    refine List.nodup_cons.2 ⟨fun hm => ?_, Bd.nodup h hs n2 fun b hb => hB b (List.mem_cons_of_mem _ hb)⟩
    obtain ⟨o', k1, v', L', k2, k3⟩ := hs.mem hm
    have hb := hB _ (List.mem_cons_self ..)
    have := h.excl _ _ _ _ _ _ h2 k2 (by rw [h1, k3]) (by rw [h1]; exact hb)
    exact n1 (this ▸ k1)
theorem DTs.len_at {w : World} : ∀ {d : DTs} {x : List Value} {bs : List Nat}, DAts w d x bs → x.length = d.length
  | _, _, _, .nil => rfl
  | _, _, _, .cons _ k => by simp [DTs.length, DTs.len_at k]
mutual
theorem seeD_ok {P : Program} {w0 w : World} {C : CM} {H : Heap} {own : Bool} (h : Rel w0 C H w) : ∀ {d : DT} {a : AV} {x : Value} {ids : List Nat}, VR C a x → seeD own H d a = some ids →
    ∃ bs, DAt w d x bs ∧ Bd C ids bs ∧ (own = true → ∀ b ∈ bs, w0.heap.size ≤ b)
  | .fl d, a, x, ids, hv, hs => by
    simp only [seeD] at hs
    split at hs
    · rename_i g
      simp only [Bool.and_eq_true] at g
      cases hs
      cases eq0_ok g.2
      exact ⟨[], .fl g.1 fun C' => hv.any0 g.1, .nil, fun _ b hb => by cases hb⟩
    · cases hs
  | .row esz len cs, a, x, ids, hv, hs => by
    simp only [seeD] at hs
    split at hs
    · rename_i o v i len' esz' room
      split at hs
      · rename_i g
        simp only [Bool.and_eq_true] at g
        obtain ⟨g1, g2, g3⟩ := g
        cases Nat.eq_of_beq_eq_true g1
        cases Nat.eq_of_beq_eq_true g2
        have g3 := Nat.eq_of_beq_eq_true g3
        split at hs
        · rename_i c clen ver ro hg
          split at hs
          · cases hs
          · rename_i hown
            split at hs
            · rename_i l hr
              split at hs
              · rename_i ids' hk
                cases hs
                cases hv with
                | sl hL q1 q2 q3 q4 q5 =>
                  rename_i L cap
                  obtain ⟨us, _, hus, _, hll, _, hcell⟩ := h.read P hr hL
                  have ho := h.fresh _ _ _ hL
                  have hb := h.lt _ _ _ hL
                  obtain ⟨bs, k1, k2, k3⟩ := seeDs_ok (P := P) h hus hk
                  unfold readAt at hr
                  rw [hg] at hr
                  split at hr
                  · rename_i c' clen' ver' ro' heq
                    cases heq
                    split at hr
                    · rename_i hv2
                      have hv' := Nat.eq_of_beq_eq_true hv2
                      subst hv'
                      obtain ⟨_, hB, _, vs, e, lo, hi, hblk, hsz, hnf, _⟩ := h.obj _ _ ho hg L hL
                      have e1 : us.length = len * esz := by rw [← hus.length, hll]; rfl
                      refine ⟨L.b :: bs, .row k1 q3 e1 hb hblk (by omega) (fun q a1 a2 => hnf q (by omega) (by omega)) (fun q hq => ?_), .cons hL rfl k2, fun ho' b hb' => ?_⟩
                      · have hc := hcell q (by show q < Nat.mul len esz; rw [show Nat.mul len esz = len * esz from rfl]; omega)
                        rw [cell_at hblk] at hc
                        rw [← hc]; congr 1; omega
                      · rcases List.mem_cons.1 hb' with rfl | hb'
                        · refine hB ?_
                          rw [ho'] at hown
                          simpa using hown
                        · exact k3 ho' b hb'
                    · cases hr
                  · rename_i hne
                    exact absurd rfl (hne _ _ _ _)
              · cases hs
            · cases hs
        · cases hs
      · cases hs
    · cases hs
theorem seeDs_ok {P : Program} {w0 w : World} {C : CM} {H : Heap} {own : Bool} (h : Rel w0 C H w) : ∀ {d : DTs} {a : List AV} {x : List Value} {ids : List Nat}, VRs C a x → seeDs own H d a = some ids →
    ∃ bs, DAts w d x bs ∧ Bd C ids bs ∧ (own = true → ∀ b ∈ bs, w0.heap.size ≤ b)
  | .nil, [], _, ids, .nil, hs => by
    simp only [seeDs] at hs
    cases hs
    exact ⟨[], .nil, .nil, fun _ b hb => by cases hb⟩
  | .cons d r, a :: l, _, ids, .cons hv hvs, hs => by
    simp only [seeDs] at hs
    split at hs
    · rename_i p hp
      split at hs
      · rename_i q hq
        cases hs
        obtain ⟨bs, k1, k2, k3⟩ := seeD_ok (P := P) h hv hp
        obtain ⟨cs, m1, m2, m3⟩ := seeDs_ok (P := P) h hvs hq
        exact ⟨bs ++ cs, .cons k1 m1, k2.append m2, fun ho b hb => (List.mem_append.1 hb).elim (k3 ho b) (m3 ho b)⟩
      · cases hs
    · cases hs
  | .nil, _ :: _, _, _, _, hs => by simp [seeDs] at hs
  | .cons _ _, [], _, _, _, hs => by simp [seeDs] at hs
end
end Go.Sv
