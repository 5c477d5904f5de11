/- The logic's operations against the evaluator's. -/
import Derived.Test.YtlfffpmdofacjaaLgNum
namespace Go.Sv

noncomputable def ρA (E : Tr AV) : Env := fun t => getP (pathOf t) E
theorem EnvR_ρA (E : Tr AV) : EnvR E (ρA E) := fun _ _ => rfl
theorem Lx_ok {c : Cx} {ρ : LEnv} {E : Tr AV} (hE : EnvL c ρ E) {x : Lx} (h : x.ok = true) : AR c (x.ev ρ) (x.r.ev (ρA E)) := by
  cases x with
  | t i => exact hE i
  | c v => exact cst_AR c h
theorem Lxs_ok {c : Cx} {ρ : LEnv} {E : Tr AV} (hE : EnvL c ρ E) : ∀ {l : List Lx}, l.all Lx.ok = true → ARs c (l.map (·.ev ρ)) ((rxs l).map (·.ev (ρA E)))
  | [], _ => .nil
  | x :: l, h => by
    simp only [List.all_cons, Bool.and_eq_true] at h
    exact .cons (Lx_ok hE h.1) (Lxs_ok hE h.2)

def optOk : Option Lx → Bool
  | none => true
  | some x => x.ok
def LOp.ok : LOp → Bool
  | .move x => x.ok
  | .pick c a b => c.ok && a.ok && b.ok
  | .alloc l => l.all LV.scal
  | .box x => x.ok
  | .build cs ps => cs.all LV.scal && ps.all (·.2.2.ok)
  | .buildSl _ _ cs ps => cs.all LV.scal && ps.all (·.2.2.ok)
  | .load1 x => x.ok
  | .loadN _ x => x.ok
  | .store _ x y => x.ok && y.ok
  | .nilChk x => x.ok
  | .bin _ _ _ x y => x.ok && y.ok
  | .un _ x => x.ok
  | .cvInt _ x => x.ok
  | .cvStr x => x.ok
  | .cvSame x => x.ok
  | .cvBytes x => x.ok
  | .mkFunc _ a b => a.all Lx.ok && b.all Lx.ok
  | .mkSl _ z l c => z.all LV.scal && l.ok && c.ok
  | .slStr x lo hi => x.ok && optOk lo && optOk hi
  | .slSl _ x lo hi => x.ok && optOk lo && optOk hi
  | .slSl3 _ x lo hi mx => x.ok && optOk lo && optOk hi && mx.ok
  | .fieldAddr _ x => x.ok
  | .field _ _ _ x => x.ok
  | .ixAddr _ x i => x.ok && i.ok
  | .ixStr x i => x.ok && i.ok
  | .extract _ x => x.ok
  | .lenStr x => x.ok
  | .lenSl x => x.ok
  | .maxi _ x y => x.ok && y.ok
  | .appZ _ z s x => z.all LV.scal && s.ok && x.ok
  | .appG _ s x => s.ok && x.ok
  | .copy _ d x => d.ok && x.ok
  | .callV f args => f.ok && args.all Lx.ok

def OpRes (P : Program) (c : Cx) (G : LHeap) (K : LV → LHeap → Prop) : OR → Prop
  | .no => False
  | .val v1 H' => ∃ c' v G', c'.H = H' ∧ HSim c' G' ∧ Step c G c' G' ∧ AR c' v v1 ∧ K v G'
  | .call t1 args1 => ∃ t args, TgtR c t t1 ∧ ARs c args args1 ∧ CallL P t args G K

section res
variable {P : Program} {c : Cx} {G : LHeap} {K : LV → LHeap → Prop}
theorem OpRes.same (hs : HSim c G) {v : LV} {a : AV} (h : AR c v a) (k : K v G) : OpRes P c G K (.val a c.H) := ⟨c, v, G, rfl, hs, .refl c G, h, k⟩
theorem OpRes.ret (hs : HSim c G) {r : Option AV} (h : VRes c (fun v => K v G) r) : OpRes P c G K (ret1 c.H r) := by
  obtain ⟨v, a, rfl, h1, h2⟩ := h
  exact .same hs h1 h2

/-- A new row or variable. -/
theorem newObj_ok (c : Cx) (l' : List AV) :
    ∃ H', newObj c.H l' = some (c.H.next, H') ∧ H'.next = c.H.next + 1 ∧ (∀ o, o < c.H.next → H'.get o = c.H.get o) ∧ H'.get c.H.next = some (.cells (ofListFrom l' 0 .e) l'.length 0 false) :=
  ⟨_, rfl, rfl, fun _ ho => Heap.get_push_ne _ _ ho, Heap.get_push_same _ _⟩
theorem newVarL_ok (hs : HSim c G) {l : List LV} {l' : List AV} (h : ARs c l l') (k : K (.ptr G.length 0) (G ++ [.cells l 0])) : OpRes P c G K (newVarA c.H l') := by
  obtain ⟨H', h1, h2, h3, h4⟩ := newObj_ok c l'
  unfold newVarA
  rw [h1]
  have hle : CxLe c ⟨c.hd ++ [(0, .ptr c.H.next 0 0)], c.Fz, H'⟩ := ⟨fun p k x e => ⟨k, x, by rw [List.getElem?_append_left (List.getElem?_eq_some_iff.1 e).1]; exact e, Nat.le_refl _, fun _ => rfl, fun _ => rfl⟩, fun o ho => ⟨ho, h3 o (hs.fz o ho)⟩⟩
  obtain ⟨q1, q2, _⟩ := hs.push (H' := H') (x := .ptr c.H.next 0 0) (ob := .cells l 0) (by omega) h3 (fun o e => by cases e; omega)
    ⟨rfl, c.H.next, _, l', rfl, by rw [h.length]; exact h4, by rw [h.length]; exact getCells_new l', h.mono hle⟩
  exact ⟨_, .ptr G.length 0, _, rfl, q1, q2, .ptr (by rw [← hs.len]; exact List.getElem?_concat_length), k⟩
theorem newSlL_ok (hs : HSim c G) {l : List LV} {l' : List AV} {len esz : Nat} {room : Option Nat} (h : ARs c l l') (hl : l.length = len * esz) (hr : ∀ r, room = some r → r = len) (k : K (.dy G.length 0) (G ++ [.dyn l len esz 0 0])) :
    OpRes P c G K (match newObj c.H l' with
      | some (o, H') => .val (.sl o 0 0 len esz room) H'
      | none => .no) := by
  obtain ⟨H', h1, h2, h3, h4⟩ := newObj_ok c l'
  rw [h1]
  have hle : CxLe c ⟨c.hd ++ [(0, .sl c.H.next 0 0 len esz room)], c.Fz, H'⟩ := ⟨fun p k x e => ⟨k, x, by rw [List.getElem?_append_left (List.getElem?_eq_some_iff.1 e).1]; exact e, Nat.le_refl _, fun _ => rfl, fun _ => rfl⟩, fun o ho => ⟨ho, h3 o (hs.fz o ho)⟩⟩
  have hll : l'.length = len * esz := by rw [← h.length]; exact hl
  obtain ⟨q1, q2, _⟩ := hs.push (H' := H') (x := .sl c.H.next 0 0 len esz room) (ob := .dyn l len esz 0 0) (by omega) h3 (fun o e => by cases e; omega)
    ⟨rfl, hl, .inr ⟨c.H.next, 0, room, _, l'.length, l', rfl, h4, by omega, by rw [← hll]; exact getCells_new l', h.mono hle, fun r e => by rw [hr r e]; exact ⟨hll, Nat.le_refl _⟩, fun _ => hll⟩⟩
  exact ⟨_, .dy G.length 0, _, rfl, q1, q2, .dy (h := .sl c.H.next 0 0 len esz room) (by rw [← hs.len]; exact List.getElem?_concat_length) (Nat.le_refl _) (fun _ => rfl) rfl, k⟩

theorem cells_at (hs : HSim c G) {p o st : Nat} {l : List LV} (hg : G[p]? = some (.cells l st)) (e : c.hd[p]? = some (0, .ptr o 0 0)) :
    ∃ t l', c.H.get o = some (.cells t l.length 0 false) ∧ getCells t 0 l.length = some l' ∧ ARs c l l' := by
  obtain ⟨_, o', t, l', he, r2, r3, r4⟩ := hs.obj p _ _ _ hg e
  injection he with he
  subst he
  exact ⟨t, l', r2, r3, r4⟩
theorem dyn_at (hs : HSim c G) {p k o v len len' esz esz' ver st : Nat} {room : Option Nat} {l : List LV} (hg : G[p]? = some (.dyn l len esz ver st)) (e : c.hd[p]? = some (k, .sl o v 0 len' esz' room)) :
    k = ver ∧ l.length = len * esz ∧ len' = len ∧ esz' = esz ∧ ∃ t clen l', c.H.get o = some (.cells t clen v false) ∧ len * esz ≤ clen ∧ getCells t 0 (len * esz) = some l' ∧ ARs c l l' ∧
      (∀ r, room = some r → clen = r * esz ∧ len ≤ r) ∧ (room = none → clen = len * esz) := by
  obtain ⟨r0, r1, r2⟩ := hs.obj p _ _ _ hg e
  rcases r2 with ⟨r2, _⟩ | ⟨o', v', room', t, clen, l', he, r3, r4, r5, r6, r7, r8⟩
  · cases r2
  · injection he with e1 e2 e3 e4 e5 e6
    subst e1 e2 e4 e5 e6
    exact ⟨r0, r1, rfl, rfl, t, clen, l', r3, r4, r5, r6, r7, r8⟩

/-- What stands at a pointer. -/
theorem readL_ok (hs : HSim c G) {x : LV} {a : AV} {n : Nat} {K : List LV → Prop} (hx : AR c x a) (h : readL G x n K) : ∃ o v i l' l, a = .ptr o v i ∧ readAt c.H o v i n = some l' ∧ ARs c l l' ∧ K l := by
  unfold readL at h
  split at h
  · rename_i p i
    split at h
    · rename_i l st hg
      obtain ⟨h1, h2⟩ := h
      cases hx with
      | @ptr _ _ o e =>
        obtain ⟨t, l', r2, r3, r4⟩ := cells_at hs hg e
        exact ⟨o, 0, i, _, _, rfl, readAt_of r2 r3 (Nat.le_refl _) h1, (r4.drop i).take n, h2⟩
    · exact h.elim
  · rename_i p k i
    split at h
    · rename_i l len esz ver st hg
      obtain ⟨hk0, h1, h2⟩ := h
      cases hx with
      | @dptr _ _ _ k' o v j hh e hk ha =>
        have hkv := (hs.obj p _ _ _ hg e).1
        obtain ⟨hj, len', esz', room', hhe⟩ := ha (by omega)
        subst hhe hj
        obtain ⟨_, r1, _, _, t, clen, l', r3, r4, r5, r6, _⟩ := dyn_at hs hg e
        exact ⟨o, v, j, _, _, rfl, readAt_of r3 r5 r4 (by omega), (r6.drop j).take n, h2⟩
    · exact h.elim
  · rename_i l i
    obtain ⟨h1, h2⟩ := h
    cases hx with
    | cptr hf hr hl => exact ⟨_, _, _, _, _, rfl, readAt_sub hr h1, (hl.drop i).take n, h2⟩
  · exact h.elim

theorem read1_ok (hs : HSim c G) {x : LV} {a : AV} {K : LV → Prop} (hx : AR c x a) (h : read1 G x K) : ∃ o v i w b, a = .ptr o v i ∧ readAt c.H o v i 1 = some [b] ∧ AR c w b ∧ K w := by
  have one : ∀ {l : List LV} {i : Nat} {v : LV}, l[i]? = some v → i + 1 ≤ l.length ∧ (l.drop i).take 1 = [v] := fun {l i v} e => by
    obtain ⟨h1, h2⟩ := List.getElem?_eq_some_iff.1 e
    refine ⟨h1, ?_⟩
    rw [List.drop_eq_getElem_cons h1, h2]
    simp
  have key : readL G x 1 (fun l => ∃ v, l = [v] ∧ K v) := by
    unfold read1 at h
    unfold readL
    split at h
    · split at h
      · obtain ⟨v, h1, h2⟩ := h
        exact ⟨(one h1).1, v, (one h1).2, h2⟩
      · exact h.elim
    · split at h
      · obtain ⟨h0, v, h1, h2⟩ := h
        exact ⟨h0, (one h1).1, v, (one h1).2, h2⟩
      · exact h.elim
    · obtain ⟨v, h1, h2⟩ := h
      exact ⟨(one h1).1, v, (one h1).2, h2⟩
    · exact h.elim
  obtain ⟨o, v, i, l', l, q1, q2, q3, w, rfl, q4⟩ := readL_ok hs hx key
  cases q3 with
  | cons e es => cases es; exact ⟨o, v, i, w, _, q1, q2, e, q4⟩

theorem writeAt_of {H : Heap} {o v i N clen : Nat} {t : Tr AV} {l r : List AV} (hg : H.get o = some (.cells t clen v false)) (_ : getCells t 0 N = some l) (hN : N ≤ clen) (hle : i + r.length ≤ N) :
    writeAt H o v i r = some (H.put o (.cells (ofListFrom r i t) clen v false)) := by
  unfold writeAt
  rw [hg]
  have hb : Nat.ble (Nat.add i r.length) clen = true := Nat.ble_eq_true_of_le (by show i + r.length ≤ clen; omega)
  simp only [Nat.beq_refl, hb]
theorem set_self {α : Type} : ∀ {l : List α} {p : Nat} {a : α}, l[p]? = some a → l.set p a = l
  | [], _, _, h => by simp at h
  | x :: l, 0, a, h => by simp at h; subst h; rfl
  | x :: l, p + 1, a, h => by simp at h; simp [set_self h]
theorem writeL_ok (hs : HSim c G) {x : LV} {a : AV} {l : List LV} {l' : List AV} {K : LHeap → Prop} (hx : AR c x a) (hl : ARs c l l') (h : writeL G x l K) :
    ∃ o v i H' c' G', a = .ptr o v i ∧ writeAt c.H o v i l' = some H' ∧ c'.H = H' ∧ HSim c' G' ∧ Step c G c' G' ∧ K G' := by
  have hlen := hl.length
  unfold writeL at h
  split at h
  · rename_i p i
    split at h
    · rename_i l0 st hg
      obtain ⟨h1, h2⟩ := h
      cases hx with
      | @ptr _ _ o e =>
        obtain ⟨t, l0', r2, r3, r4⟩ := cells_at hs hg e
        have hw := writeAt_of (i := i) (r := l') r2 r3 (Nat.le_refl _) (by omega)
        obtain ⟨q1, q2, _⟩ := hs.upd (k' := 0) (x' := .ptr o 0 0) (ob' := .cells (layLV l0 i l) (st + 1)) (H' := c.H.put o (.cells (ofListFrom l' i t) l0.length 0 false)) hg rfl e (Nat.le_refl _)
          (fun o' _ hne => Heap.get_put_ne _ _ (fun q => hne (by rw [q]; rfl))) (fun o' e' => by cases e'; exact ⟨.inl rfl, hs.lt o ⟨p, _, _, _, hg, rfl, e, rfl⟩⟩) (Nat.le_refl _) (fun _ => rfl) (fun _ => rfl) (.inl (Nat.lt_succ_self _))
          (fun hle => ⟨rfl, o, _, layAV l0' i l', rfl, by rw [layLV_length h1]; exact Heap.get_put_same _ _ _, by rw [layLV_length h1]; exact getCells_lay r3 (by omega), (r4.lay hl i).mono hle⟩)
        exact ⟨o, 0, i, _, _, _, rfl, hw, rfl, q1, q2, h2⟩
    · exact h.elim
  · rename_i p k i
    split at h
    · rename_i l0 len esz ver st hg
      obtain ⟨hk0, h1, h2⟩ := h
      cases hx with
      | @dptr _ _ _ k' o v j hh e hk ha =>
        have hkv := (hs.obj p _ _ _ hg e).1
        obtain ⟨hj, len', esz', room, hhe⟩ := ha (by omega)
        subst hhe hj
        obtain ⟨hk2, r1, hl2, he2, t, clen, l0', r3, r4, r5, r6, r7, r8⟩ := dyn_at hs hg e
        subst hl2 he2
        have hw := writeAt_of (i := j) (r := l') r3 r5 r4 (by omega)
        obtain ⟨q1, q2, _⟩ := hs.upd (k' := k') (x' := .sl o v 0 len' esz' room) (ob' := .dyn (layLV l0 j l) len' esz' ver (st + 1)) (H' := c.H.put o (.cells (ofListFrom l' j t) clen v false)) hg rfl e (Nat.le_refl _)
          (fun o' _ hne => Heap.get_put_ne _ _ (fun q => hne (by rw [q]; rfl))) (fun o' e' => by cases e'; exact ⟨.inl rfl, hs.lt _ ⟨p, _, _, _, hg, rfl, e, rfl⟩⟩) (Nat.le_refl _) (fun _ => rfl) (fun _ => rfl) (.inl (Nat.lt_succ_self _))
          (fun hle => ⟨hk2, by rw [layLV_length h1]; exact r1, .inr ⟨o, v, room, _, clen, layAV l0' j l', rfl, Heap.get_put_same _ _ _, r4, getCells_lay r5 (by omega), (r6.lay hl j).mono hle, r7, r8⟩⟩)
        exact ⟨o, v, j, _, _, _, rfl, hw, rfl, q1, q2, h2⟩
    · exact h.elim
  · exact h.elim

/-- A row's length. -/
theorem lenL_ok (hs : HSim c G) {x : LV} {a : AV} {K : Nat → Prop} (hx : AR c x a) (h : lenL G x K) : ∃ n, K n ∧ (a = .nilSl ∧ n = 0 ∨ a = .emp ∧ n = 0 ∨ ∃ o v i esz room, a = .sl o v i n esz room) := by
  unfold lenL at h
  split at h
  · cases hx; exact ⟨0, h, .inl ⟨rfl, rfl⟩⟩
  · rename_i p k
    split at h
    · rename_i l len esz ver st hg
      obtain ⟨hk0, h⟩ := h
      cases hx with
      | @dy _ _ k' hh _ e hk ha _ =>
        obtain ⟨r0, r1, r2⟩ := hs.obj p _ _ _ hg e
        have hha := ha (by omega)
        rcases r2 with ⟨r2, r3⟩ | ⟨o, v, room, t, clen, l', r2, _⟩
        · exact ⟨len, h, .inl ⟨hha.trans r2, r3⟩⟩
        · exact ⟨len, h, .inr (.inr ⟨_, _, _, _, _, hha.trans r2⟩)⟩
    · exact h.elim
  · rename_i p k lo len
    split at h
    · rename_i l len0 esz ver st hg
      obtain ⟨hk0, h⟩ := h
      cases hx with
      | @vw _ _ _ _ k' hh _ e hk ha _ =>
        obtain ⟨r0, r1, r2⟩ := hs.obj p _ _ _ hg e
        rcases ha (by omega) with ⟨r3, r4 | r4⟩ | ⟨o, v, len', esz', room, room', _, r4, _⟩
        · exact ⟨len, h, .inl ⟨r4, r3⟩⟩
        · exact ⟨len, h, .inr (.inl ⟨r4, r3⟩)⟩
        · exact ⟨len, h, .inr (.inr ⟨_, _, _, _, _, r4⟩)⟩
    · exact h.elim
  · cases hx with
    | lst => exact ⟨_, h, .inr (.inr ⟨_, _, _, _, _, rfl⟩)⟩
    | lstNil => exact ⟨0, h, .inl ⟨rfl, rfl⟩⟩
    | lstEmp => exact ⟨0, h, .inr (.inl ⟨rfl, rfl⟩)⟩
  · exact h.elim

theorem unpack_u8 (l : List UInt8) (c : Cx) : ARs c (l.map LV.b) ((unpackL l.length (packL l)).map fun (b : Nat) => AV.int .u8 (Int.ofNat b)) := by
  rw [unpack_pack]
  induction l with
  | nil => exact .nil
  | cons b l ih => exact .cons (.b b) ih

theorem rowL_ok (hs : HSim c G) {x : LV} {a : AV} {size : Nat} {K : Nat → List LV → Prop} (hx : AR c x a) (h : rowL G size x K) : ∃ n l l', takeA c.H size a = some (n, l') ∧ ARs c l l' ∧ l.length = n * size ∧ K n l := by
  have hsz : Nat.beq size size = true := Nat.beq_refl _
  unfold rowL at h
  split at h
  · cases hx; exact ⟨0, [], [], rfl, .nil, by simp, h⟩
  · rename_i p k
    split at h
    · rename_i l len esz ver st hg
      obtain ⟨hk0, rfl, h⟩ := h
      cases hx with
      | @dy _ _ k' hh _ e hk ha _ =>
        obtain ⟨r0, r1, r2⟩ := hs.obj p _ _ _ hg e
        have hha := ha (by omega)
        rcases r2 with ⟨r2, r3⟩ | ⟨o, v, room, t, clen, l', r2, r3, r4, r5, r6, _⟩
        · subst r3
          have : l = [] := List.eq_nil_of_length_eq_zero (by simpa using r1)
          subst this
          exact ⟨0, [], [], by rw [hha, r2]; rfl, .nil, by simp, h⟩
        · refine ⟨len, l, l', ?_, r6, r1, h⟩
          have hr := readAt_of (i := 0) (n := len * esz) r3 r5 r4 (by omega)
          have hl' : l'.length = len * esz := by rw [← r6.length]; exact r1
          rw [hha, r2]
          simp only [takeA, hsz]
          rw [show Nat.mul len esz = len * esz from rfl, hr]
          simp [List.take_of_length_le, hl']
    · exact h.elim
  · rename_i p k lo len
    split at h
    · rename_i l len0 esz ver st hg
      obtain ⟨hk0, rfl, h1, h⟩ := h
      cases hx with
      | @vw _ _ _ _ k' hh _ e hk ha _ =>
        have hkv := (hs.obj p _ _ _ hg e).1
        rcases ha (by omega) with ⟨r3, r4⟩ | ⟨o, v, len', esz', room, room', r3, r4, _⟩
        · subst r3
          refine ⟨0, _, [], ?_, by simpa using (ARs.nil (c := c)), by simp, h⟩
          rcases r4 with rfl | rfl <;> rfl
        · subst r3
          obtain ⟨_, q1, q2, q3, t, clen, l', q4, q5, q6, q7, _⟩ := dyn_at hs hg e
          subst q2 q3
          have hr := readAt_of (i := lo * esz') (n := len * esz') q4 q6 q5 (by omega)
          refine ⟨len, _, _, ?_, (q7.drop (lo * esz')).take (len * esz'), by simp; omega, h⟩
          rw [r4]
          simp only [takeA, hsz]
          rw [show Nat.mul len esz' = len * esz' from rfl, hr]
    · exact h.elim
  · rename_i l len esz
    obtain ⟨rfl, h⟩ := h
    cases hx with
    | lst hf hrm hlen hr hl =>
      refine ⟨len, l, _, ?_, hl, hlen, h⟩
      simp only [takeA, hsz]
      rw [show Nat.mul len esz = len * esz from rfl, hr]
    | lstNil => exact ⟨0, [], [], rfl, .nil, by simp, h⟩
    | lstEmp => exact ⟨0, [], [], rfl, .nil, by simp, h⟩
  · rename_i l
    obtain ⟨rfl, h⟩ := h
    cases hx
    refine ⟨l.length, _, _, ?_, unpack_u8 l c, by simp, h⟩
    simp [takeA]
  · exact h.elim
end res
end Go.Sv
