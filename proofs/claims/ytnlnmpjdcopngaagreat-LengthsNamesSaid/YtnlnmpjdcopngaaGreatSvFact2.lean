/- As SvFact; a row of values that name nothing in memory may be handed in behind them. -/
import Derived.Test.YtnlnmpjdcopngaaGreatSvFact
namespace Go.Sv
open Go.RowKit (Below)

theorem Rel.ro2 {W : World} {C : CM} {H : Heap} (h : Rel W C H W) {L : Loc} (hL : L.b < W.heap.size) {l : List AV} (hob : C.le (C.ext H.next 0 L) → ObjR W.heap.size (C.ext H.next 0 L) W H.next (.cells (ofListFrom l 0 .e) l.length 0 true)) :
    Rel W (C.ext H.next 0 L) (H.push (.cells (ofListFrom l 0 .e) l.length 0 true)) W ∧ C.le (C.ext H.next 0 L) := by
  have hle : C.le (C.ext H.next 0 L) := CM.le_ext _ (h.next_none 0) (.inr (Nat.le_of_eq h.nx))
  refine ⟨⟨by show max C.nx (H.next + 1) = H.next + 1; rw [h.nx]; exact Nat.max_eq_right (Nat.le_succ _), h.low, ?_, ?_, ?_, ?_, ?_⟩, hle⟩
  · intro o v L' hL'
    show o < H.next + 1
    by_cases e : o = H.next ∧ v = 0
    · omega
    · rw [CM.ext_ne _ _ e] at hL'; have := h.fresh _ _ _ hL'; omega
  · intro o v L' hL'
    by_cases e : o = H.next ∧ v = 0
    · obtain ⟨rfl, rfl⟩ := e; rw [CM.ext_same] at hL'; cases hL'; exact hL
    · rw [CM.ext_ne _ _ e] at hL'; exact h.lt _ _ _ hL'
  · intro o v L1 o' v' L2 h1 h2 hb hB
    by_cases e : o = H.next ∧ v = 0
    · obtain ⟨rfl, rfl⟩ := e; rw [CM.ext_same] at h1; cases h1; omega
    · by_cases e' : o' = H.next ∧ v' = 0
      · obtain ⟨rfl, rfl⟩ := e'; rw [CM.ext_same] at h2; cases h2; omega
      · rw [CM.ext_ne _ _ e] at h1; rw [CM.ext_ne _ _ e'] at h2; exact h.excl _ _ _ _ _ _ h1 h2 hb hB
  · intro o ob ho hg
    by_cases e : o = H.next
    · subst e; rw [Heap.get_push_same] at hg; cases hg; exact hob hle
    · have ho' : o < H.next := by have : o < H.next + 1 := ho; omega
      rw [Heap.get_push_ne _ _ ho'] at hg
      refine (h.obj _ _ ho' hg).frame hle (fun v L' hL' => ?_) (fun _ _ _ => rfl)
      rwa [CM.ext_ne _ _ (by omega)] at hL'
  · intro o c len ver ro ho hg v L' hL'
    by_cases e : o = H.next
    · subst e
      by_cases ev : v = 0
      · omega
      · rw [CM.ext_ne _ _ (by omega)] at hL'; have := h.fresh _ _ _ hL'; omega
    · have ho' : o < H.next := by have : o < H.next + 1 := ho; omega
      rw [Heap.get_push_ne _ _ ho'] at hg
      rw [CM.ext_ne _ _ (by omega)] at hL'
      exact h.top _ _ _ _ _ ho' hg _ _ hL'
/-- A row of flat cells in memory. -/
def SlAt (w : World) (l : List AV) (x : Value) : Prop :=
  ∃ (b off cap : Nat) (vs : Array Value) (e : TypeId) (lo hi : Nat), x = .slice (some ⟨b, off, none⟩) l.length cap ∧ l.length ≤ cap ∧ b < w.heap.size ∧ w.heap[b]? = some (.cells vs e (lo, hi)) ∧ off + cap ≤ vs.size ∧ (∀ q, off ≤ q → q < off + cap → ¬ (lo ≤ q ∧ q < hi)) ∧
    ∀ q, q < l.length → ∃ a u, l[q]? = some a ∧ vs[off + q]? = some u ∧ ∀ C, VR C a u
structure Fact2 where
  f : Nat
  args : List AV
  row : List AV
  v : AV
def Fact2.Right (P : Program) (F : Fact2) : Prop := flats0 F.args = true ∧ flats0 F.row = true ∧ flatV F.v = true ∧ ∀ (w : World) (C : CM) (vs : List Value) (x : Value), VRs C F.args vs → SlAt w F.row x →
  ∀ cs, ∃ w' fr y, Below w.heap.size w w' ∧ Steps P (lone (Frame.enter P F.f (vs ++ [x]).toArray .normal) cs w) (lone fr cs w') ∧ fr.fn = F.f ∧ fr.leaving P w' (.returned y) ∧ VR C F.v y
noncomputable def rowSl (n : Nat) : AV := .sl 0 0 0 n 1 none
noncomputable def runF2 (P : Program) (O : CallT) (m : Nat) (F : Fact2) : Bool := match callA P O m (.fn F.f) (F.args ++ [rowSl F.row.length]) (Heap.push ⟨.e, 0⟩ (.cells (ofListFrom F.row 0 .e) F.row.length 0 true)) with
  | .ok v _ => eqV v F.v && (flats0 F.args && (flats0 F.row && flatV F.v))
  | _ => false
theorem one_flat {a : AV} (h : flat0 a = true) : a.one = true := by
  cases a <;> first | rfl | cases h
theorem flats_mem : ∀ {l : List AV}, flats0 l = true → ∀ {i : Nat} {a : AV}, l[i]? = some a → flat0 a = true
  | [], _, i, a, h => by simp at h
  | b :: l, h, i, a, hi => by
    simp only [flats0, Bool.and_eq_true] at h
    cases i with
    | zero => simp at hi; rw [← hi]; exact h.1
    | succ i => exact flats_mem h.2 (by simpa using hi)
theorem fact2_of_run {P : Program} (hm : P.follows .mixedOrders = true) {O : CallT} (hO : SoundCall P O) {m : Nat} {F : Fact2} (h : runF2 P O m F = true) : F.Right P := by
  unfold runF2 at h
  split at h
  · rename_i v H' hr
    simp only [Bool.and_eq_true] at h
    obtain ⟨h1, h2, h3, h4⟩ := h
    cases eqV_ok h1
    refine ⟨h2, h3, h4, fun w C vs x hv hsl cs => ?_⟩
    obtain ⟨b, off, cap, us, e, lo, hi, rfl, hcap, hb, hblk, hsz, hnf, hc⟩ := hsl
    obtain ⟨hR, hle⟩ := Rel.ro2 (Rel.start w) (L := ⟨b, off, F.row.length, off + cap⟩) hb (l := F.row) (fun hle L hL => by
      rw [CM.ext_same] at hL
      cases hL
      refine ⟨rfl, fun e => (by cases e), by show off + F.row.length ≤ off + cap; omega, us, e, lo, hi, hblk, hsz, fun q h1 h2 => hnf q h1 h2, fun q hq => ?_⟩
      obtain ⟨a, u, c1, c2, c3⟩ := hc q hq
      exact ⟨a, by rw [get_ofList, if_pos (by omega)]; simpa using c1, one_flat (flats_mem h3 c1), u, c2, c3 _⟩)
    have hx : VR (CM.ext ⟨fun _ _ => none, 0⟩ 0 0 ⟨b, off, F.row.length, off + cap⟩) (rowSl F.row.length) (.slice (some ⟨b, off, none⟩) F.row.length cap) :=
      VR.sl (L := ⟨b, off, F.row.length, off + cap⟩) (i := 0) (CM.ext_same _ _ _ _) (by dsimp only; omega) (by dsimp only; omega) hcap (fun r e => by cases e) (fun _ => by dsimp only; omega)
    obtain ⟨C', w', v', fr, k1, k2, k3, k4, k5, k6⟩ := callA_sound hm hO m w _ _ w (.fn F.f) _ (vs ++ [.slice (some ⟨b, off, none⟩) F.row.length cap]) _ _ hR ((hv.any0 h2).append (.cons hx .nil)) hr cs
    exact ⟨w', fr, v', k2.low, k4, k5, k6, k3.anyV h4⟩
  · cases h
noncomputable def isRow (H : Heap) (row : List AV) : AV → Bool
  | .sl o v i len esz _ => Nat.beq esz 1 && (Nat.beq len row.length && (match readAt H o v i len with
    | some l => eqs0 l row
    | none => false))
  | _ => false
noncomputable def matchR (H : Heap) (row : List AV) : List AV → List AV → Bool
  | [], [x] => isRow H row x
  | a :: r, x :: l => eq0 x a && matchR H row r l
  | _, _ => false
theorem matchR_ok {H : Heap} {row : List AV} : ∀ {args as : List AV}, matchR H row args as = true → ∃ x, as = args ++ [x] ∧ isRow H row x = true
  | [], [x], h => ⟨x, rfl, h⟩
  | a :: r, x :: l, h => by
    simp only [matchR, Bool.and_eq_true] at h
    obtain ⟨y, rfl, hy⟩ := matchR_ok h.2
    exact ⟨y, by rw [eq0_ok h.1]; rfl, hy⟩
  | [], [], h => by cases h
  | [], _ :: _ :: _, h => by cases h
  | _ :: _, [], h => by cases h
noncomputable def findR (f : Nat) (args : List AV) (H : Heap) : List Fact2 → Option AV
  | [] => none
  | F :: L => if Nat.beq f F.f && matchR H F.row F.args args then some F.v else findR f args H L
theorem findR_ok {f : Nat} {args : List AV} {H : Heap} {v : AV} : ∀ {L : List Fact2}, findR f args H L = some v → ∃ F ∈ L, F.f = f ∧ (∃ x, args = F.args ++ [x] ∧ isRow H F.row x = true) ∧ F.v = v
  | [], h => by cases h
  | F :: L, h => by
    unfold findR at h
    split at h
    · rename_i g
      simp only [Bool.and_eq_true] at g
      cases h
      exact ⟨F, by simp, (Nat.eq_of_beq_eq_true g.1).symm, matchR_ok g.2, rfl⟩
    · obtain ⟨F', h1, h2⟩ := findR_ok h
      exact ⟨F', List.mem_cons_of_mem _ h1, h2⟩
noncomputable def factR (L : List Fact2) : CallT := fun t args H => match t with
  | .fn f => match findR f args H L with
    | some v => .ok v H
    | none => .no
  | _ => .no
theorem VRs.last {C : CM} : ∀ {l : List AV} {x : AV} {r : List Value}, VRs C (l ++ [x]) r → ∃ r' u, r = r' ++ [u] ∧ VRs C l r' ∧ VR C x u
  | [], x, _, .cons h hs => by cases hs; exact ⟨[], _, rfl, .nil, h⟩
  | a :: l, x, _, .cons h hs => by
    obtain ⟨r', u, rfl, h1, h2⟩ := VRs.last hs
    exact ⟨_ :: r', u, rfl, .cons h h1, h2⟩
theorem row_at {P : Program} {w0 : World} {C : CM} {H : Heap} {w : World} (hR : Rel w0 C H w) {row : List AV} (hf : flats0 row = true) {x : AV} {u : Value} (hx : isRow H row x = true) (hu : VR C x u) : SlAt w row u := by
  unfold isRow at hx
  split at hx
  · rename_i o v i len esz room
    simp only [Bool.and_eq_true] at hx
    obtain ⟨h1, h2, h3⟩ := hx
    have h1 := Nat.eq_of_beq_eq_true h1
    have h2 := Nat.eq_of_beq_eq_true h2
    subst h1
    subst h2
    split at h3
    · rename_i l hr
      cases eqs0_ok h3
      cases hu with
      | sl hL q1 q2 q3 q4 q5 =>
        rename_i L cap
        obtain ⟨us, _, hus, _, _, _, hcell⟩ := hR.read P hr hL
        have ho := hR.fresh _ _ _ hL
        have hb := hR.lt _ _ _ hL
        unfold readAt at hr
        split at hr
        · rename_i c clen ver ro hg
          split at hr
          · rename_i hv
            have hv' := Nat.eq_of_beq_eq_true hv
            subst hv'
            obtain ⟨_, _, _, vs, e, lo, hi, hblk, hsz, hnf, _⟩ := hR.obj _ _ ho hg L hL
            refine ⟨L.b, L.d + i, cap, vs, e, lo, hi, rfl, q3, hb, hblk, by omega, fun q a1 a2 => hnf q (by omega) (by omega), fun q hq => ?_⟩
            obtain ⟨a, y, c1, c2, c3⟩ := hus.get' hq
            have hc := hcell q hq
            rw [cell_at hblk, c2] at hc
            exact ⟨a, y, c1, by rw [← hc]; congr 1; omega, fun C' => c3.any0 (flats_mem hf c1)⟩
          · cases hr
        · cases hr
    · cases h3
  · cases hx
theorem factR_sound {P : Program} {L : List Fact2} (hL : ∀ F ∈ L, F.Right P) : SoundCall P (factR L) := by
  intro w0 C H w t args vs v H' hR hV hc
  unfold factR at hc
  split at hc
  · rename_i f
    split at hc
    · rename_i v1 hf
      cases hc
      obtain ⟨F, h1, rfl, ⟨x, rfl, hx⟩, rfl⟩ := findR_ok hf
      obtain ⟨r, u, rfl, k1, k2⟩ := VRs.last hV
      obtain ⟨g1, g2, g3, g4⟩ := hL F h1
      intro cs
      obtain ⟨w', fr, y, m1, m2, m3, m4, m5⟩ := g4 w C r u k1 (row_at (P := P) hR g2 hx k2) cs
      exact ⟨C, w', y, fr, CM.le_refl C, hR.below0 m1, m5, m2, m3, m4⟩
    · cases hc
  · cases hc
/-- Both kinds of facts. -/
noncomputable def orO (A B : CallT) : CallT := fun t args H => match A t args H with
  | .ok v H' => .ok v H'
  | .no => B t args H
theorem orO_sound {P : Program} {A B : CallT} (ha : SoundCall P A) (hb : SoundCall P B) : SoundCall P (orO A B) := by
  intro w0 C H w t args vs v H' hR hV hc
  unfold orO at hc
  split at hc
  · rename_i v1 H1 h1
    cases hc
    exact ha _ _ _ _ _ _ _ _ _ hR hV h1
  · exact hb _ _ _ _ _ _ _ _ _ hR hV hc
end Go.Sv
