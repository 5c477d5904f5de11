/- Texts of the evaluator, of the logic over it, of plain arithmetic. -/
import Derived.Test.YtcbbilifblbblaaSvG3
namespace Go.Sv
def sfx : Str := [95, 112]
mutual
def renS : Stt → Stt
 | .mk k n l op as ns ls b => .mk k (if k = 5 then n ++ sfx else n) l op as ns ls (if k = 3 then renL b else b)
def renL : List Stt → List Stt
 | [] => []
 | s :: l => renS s :: renL l
end
theorem renL_map : ∀ l : List Stt, renL l = l.map renS
 | [] => rfl
 | s :: l => by rw [renL, renL_map l]; rfl
mutual
def shS : Stt → Prop
 | .mk _ n _ _ _ _ _ b => n.length ≤ 20 ∧ shL b
def shL : List Stt → Prop
 | [] => True
 | s :: l => shS s ∧ shL l
end
theorem shL_mem : ∀ {l : List Stt}, shL l → ∀ s ∈ l, shS s
 | [], _, s, h => by cases h
 | a :: l, hl, s, h => by
  rw [shL] at hl
  rcases List.mem_cons.1 h with rfl | h
  ·exact hl.1
  ·exact shL_mem hl.2 s h
mutual
theorem stS_sh {most : Int} (hm : 0 ≤ most) : ∀ (s : Stt) (deep : Int), stS most s deep ≤ most → badS s = false → shS s
 | .mk k n l op as ns ls b, deep, h, hb => by
  rw [stS] at h
  rw [shS]
  refine ⟨by simp [badS] at hb; omega, ?_⟩
  split at h
  ·omega
  ·exact stG_sh hm b deep _ (by omega) (by omega) h
theorem stG_sh {most : Int} (hm : 0 ≤ most) : ∀ (b : List Stt) (deep n : Int), 0 ≤ n → n ≤ most → stG most b deep n ≤ most → shL b
 | [], _, _, _, _, _ => by rw [shL]; trivial
 | s :: l, deep, n, h0, h1, h => by
  rw [stG] at h
  have hs := stS_le hm s (deep - 1)
  rw [shL]
  split at h
  ·omega
  ·rename_i c1
   split at h
   ·omega
   ·exact ⟨stS_sh hm s (deep - 1) (by omega) (by simpa using c1), stG_sh hm l deep _ (by omega) (by omega) h⟩
end
theorem ligF_sh : ∀ (l : List PrcT) (n : Int), 0 ≤ n → ligF l n = true → ∀ p ∈ l, p.name.length ≤ 20 ∧ shL p.body
 | [], _, _, _ => fun p hp => by cases hp
 | q :: l, n, h0, h => by
  have hs := stN_le (most := 40) (by omega) 6 q.body
  have mono : ∀ (l : List PrcT) (n : Int), ligF l n = true → n ≤ 40 := by
   intro l
   induction l with
   | nil => intro n h; simpa [ligF] using h
   | cons p l ih =>
    intro n h
    rw [ligF] at h
    split at h
    ·cases h
    ·split at h
     ·cases h
     ·have := ih _ h
      have := stN_le (most := 40) (by omega) 6 p.body
      omega
  rw [ligF] at h
  split at h
  ·cases h
  ·rename_i hb
   split at h
   ·cases h
   ·intro p hp
    rcases List.mem_cons.1 hp with rfl | hp
    ·have h1 := mono _ _ h
     refine ⟨by simp [badP] at hb; omega, ?_⟩
     have h2 : stN 40 6 p.body ≤ 40 := by omega
     rw [stN] at h2
     split at h2
     ·omega
     ·exact stG_sh (by omega) p.body 6 _ (by omega) (by omega) h2
    ·exact ligF_sh l _ (by omega) h p hp
mutual
theorem renS_ok : ∀ s : Stt, s.ok → shS s → (renS s).ok
 | .mk k n l op as ns ls b, h, hs => by
  rw [Stt.ok] at h
  rw [shS] at hs
  obtain ⟨o1, o2, o3, o4, o5, o6, o7, o8, o9⟩ := h
  rw [renS, Stt.ok]
  refine ⟨o1, ?_, o3, o4, o5, o6, o7, ?_, ?_⟩
  ·unfold okStr
   split
   ·rw [List.length_append, show sfx.length = 2 from rfl]; omega
   ·omega
  ·split
   ·rw [renL_map, List.length_map]; exact o8
   ·exact o8
  ·split
   ·exact renL_ok b o9 hs.2
   ·exact o9
theorem renL_ok : ∀ l : List Stt, stsOk l → shL l → stsOk (renL l)
 | [], _, _ => by rw [renL, stsOk]; trivial
 | s :: l, h, hs => by
  rw [stsOk] at h
  rw [shL] at hs
  rw [renL, stsOk]
  exact ⟨renS_ok s h.1 hs.1, renL_ok l h.2 hs.2⟩
end
mutual
theorem renS_cnt : ∀ s : Stt, cntS (renS s) = cntS s
 | .mk k n l op as ns ls b => by
  rw [renS, cntS, cntS]
  split
  ·rw [renL_cnt b]
  ·rfl
theorem renL_cnt : ∀ l : List Stt, cntL (renL l) = cntL l
 | [] => by rw [renL]
 | s :: l => by rw [renL, cntL, cntL, renS_cnt s, renL_cnt l]
end
def renP (p : PrcT) : PrcT := { p with name := p.name ++ sfx, body := renL p.body }
theorem fm_put {α : Type} {f : α → List LV} {k : Nat} (hf : ∀ a, (f a).length = k) {l : List α} {i j : Nat} {x y : α} {v : LV} (hx : l[i]? = some x) (hj : j < k) (hy : f y = (f x).set j v) : (l.flatMap f).set (i * k + j) v = (l.set i y).flatMap f := by
 have hi := (List.getElem?_eq_some_iff.1 hx).1
 apply List.ext_getElem?
 intro z
 by_cases hz : z < l.length * k
 ·have hk : 0 < k := by omega
  have hq : z = z / k * k + z % k := by have := Nat.div_add_mod z k; rw [Nat.mul_comm] at this; omega
  have hq1 : z / k < l.length := (Nat.div_lt_iff_lt_mul hk).2 hz
  have hq2 : z % k < k := Nat.mod_lt _ hk
  generalize z / k = q at *
  generalize z % k = r at *
  subst hq
  obtain ⟨w, hw⟩ : ∃ w, l[q]? = some w := ⟨_, List.getElem?_eq_getElem hq1⟩
  by_cases e : q = i
  ·subst e
   rw [hx] at hw
   cases hw
   have h1 : (l.set q y)[q]? = some y := List.getElem?_set_self hi
   rw [fm_at hf h1 hq2, hy]
   by_cases e2 : r = j
   ·subst e2
    rw [List.getElem?_set_self (by rw [fm_len hf]; exact hz), List.getElem?_set_self (by rw [hf]; exact hq2)]
   ·rw [List.getElem?_set_ne (by omega), List.getElem?_set_ne (by omega), fm_at hf hx hq2]
  ·have h1 : (l.set i y)[q]? = some w := by rw [List.getElem?_set_ne (by omega)]; exact hw
   have hne : i * k + j ≠ q * k + r := by
    intro e3
    rcases Nat.lt_or_gt_of_ne e with h | h
    ·have := Nat.mul_le_mul_right k h; rw [Nat.succ_mul] at this; omega
    ·have := Nat.mul_le_mul_right k h; rw [Nat.succ_mul] at this; omega
   rw [List.getElem?_set_ne hne, fm_at hf hw hq2, fm_at hf h1 hq2]
 ·have h1 : (l.flatMap f).length = l.length * k := fm_len hf l
  have h2 : ((l.set i y).flatMap f).length = l.length * k := by rw [fm_len hf, List.length_set]
  rw [List.getElem?_eq_none (by rw [List.length_set]; omega), List.getElem?_eq_none (by omega)]
end Go.Sv
namespace Go.Sv
def halfM {α : Type} (f : α → α) (l : List α) (i : Nat) : List α := (l.take i).map f ++ l.drop i
theorem halfM_len {α : Type} (f : α → α) {l : List α} {i : Nat} (hi : i ≤ l.length) : (halfM f l i).length = l.length := by simp [halfM]; omega
theorem halfM_at {α : Type} (f : α → α) {l : List α} {i : Nat} {x : α} (h : l[i]? = some x) : (halfM f l i)[i]? = some x := by
 have hi := (List.getElem?_eq_some_iff.1 h).1
 rw [halfM, List.getElem?_append_right (by simp; omega)]
 simp only [List.length_map, List.length_take]
 rw [Nat.min_eq_left (by omega), Nat.sub_self, List.getElem?_drop, Nat.add_zero]
 exact h
theorem halfM_set {α : Type} (f : α → α) {l : List α} {i : Nat} {x : α} (h : l[i]? = some x) : (halfM f l i).set i (f x) = halfM f l (i + 1) := by
 have hi := (List.getElem?_eq_some_iff.1 h).1
 have hx : l[i] = x := by have := List.getElem?_eq_getElem hi; rw [h] at this; exact (Option.some.inj this).symm
 unfold halfM
 rw [List.set_append_right _ _ (by simp; omega)]
 simp only [List.length_map, List.length_take]
 rw [Nat.min_eq_left (by omega), Nat.sub_self, List.drop_eq_getElem_cons hi, List.set_cons_zero, List.take_succ_eq_append_getElem hi, List.map_append, hx]
 simp
theorem halfM_all {α : Type} (f : α → α) {l : List α} {i : Nat} (hi : l.length ≤ i) : halfM f l i = l.map f := by
 rw [halfM, List.take_of_length_le hi, List.drop_of_length_le hi, List.append_nil]
theorem halfM_zero {α : Type} (f : α → α) (l : List α) : halfM f l 0 = l := by simp [halfM]
end Go.Sv
namespace Go.Sv
theorem ixZ_map {α β : Type} (f : α → β) (p : β → Bool) (l : List α) : ixZ p (l.map f) = ixZ (fun a => p (f a)) l := by
 unfold ixZ
 rw [List.findIdx_map, List.length_map]
 rfl
theorem sfx_inj {a b : Str} : (a ++ sfx = b ++ sfx) = (a = b) := by simp
theorem renP_name {p : PrcT} {n : Str} : decide ((renP p).name = n ++ sfx) = decide (p.name = n) := by simp [renP]
theorem gp_ren (l : List PrcT) (i : Nat) : (gp (l.map renP) i).lens = (gp l i).lens ∧ (gp (l.map renP) i).params = (gp l i).params := by
 unfold gp
 simp only [List.getD_eq_getElem?_getD, List.getElem?_map]
 cases l[i]? <;> simp [renP]
theorem calE_ren (ah : List PrcT) (lens : List Str) (n : Str) (ns : List Str) (ls : List LenT) (s : Sc) : calE (ah.map renP) lens (n ++ sfx) ns ls s = calE ah lens n ns ls s := by
 have hi : ixZ (fun p => decide (p.name = n ++ sfx)) (ah.map renP) = ixZ (fun p => decide (p.name = n)) ah := by
  rw [ixZ_map]
  congr 1
  funext p
  exact renP_name
 unfold calE
 rw [hi]
 have hg := gp_ren ah (ixZ (fun p => decide (p.name = n)) ah).toNat
 unfold calF
 rw [hg.1, hg.2]
mutual
theorem stmtE_ren (ah : List PrcT) (lens : List Str) : ∀ (x : Stt) (s : Sc) (all : List TypT), stmtE (ah.map renP) lens (renS x) s all = stmtE ah lens x s all
 | .mk k n l op as ns ls b, s, all => by
  have hb := bodyE_ren ah lens b s all
  rw [renS, stmtE, stmtE]
  by_cases k1 : k = 1
  ·subst k1; simp
  rw [if_neg k1, if_neg k1]
  by_cases k2 : k = 2
  ·subst k2; simp
  rw [if_neg k2, if_neg k2]
  by_cases k3 : k = 3
  ·subst k3; simp [hb]
  rw [if_neg k3, if_neg k3]
  by_cases k4 : k = 4
  ·subst k4; simp
  rw [if_neg k4, if_neg k4]
  by_cases k5 : k = 5
  ·subst k5; simp [calE_ren]
  rw [if_neg k5, if_neg k5]
theorem bodyE_ren (ah : List PrcT) (lens : List Str) : ∀ (b : List Stt) (s : Sc) (all : List TypT), bodyE (ah.map renP) lens (renL b) s all = bodyE ah lens b s all
 | [], s, all => by rw [renL, bodyE, bodyE]
 | x :: l, s, all => by
  rw [renL, bodyE, bodyE, stmtE_ren ah lens x s all, bodyE_ren ah lens l]
end
theorem lookE_ren (ah : List PrcT) (p : PrcT) : lookE (ah.map renP) (renP p) = lookE ah p := by
 have h1 : ((ah.map renP).any fun q => decide (q.name = (renP p).name)) = ah.any fun q => decide (q.name = p.name) := by
  rw [List.any_map]
  congr 1
  funext q
  exact renP_name
 unfold lookE
 rw [h1]
 rw [show (renP p).lens = p.lens from rfl, show (renP p).params = p.params from rfl, show (renP p).req = p.req from rfl, show (renP p).ens = p.ens from rfl, show (renP p).body = renL p.body from rfl, bodyE_ren]
theorem checkF_ren (l : List PrcT) : ∀ (r : List PrcT) (i : Nat), checkF (l.map renP) (r.map renP) i = checkF l r i
 | [], i => rfl
 | p :: r, i => by
  rw [List.map_cons, checkF, checkF, ← List.map_take, lookE_ren, checkF_ren l r]
theorem checkE_ren (l : List PrcT) : checkE (l.map renP) = checkE l := by
 unfold checkE
 rw [checkF_ren]
 cases l <;> simp
theorem mayE_ren (l : List PrcT) (i : Int) : mayE (l.map renP) i = mayE l i := by
 unfold mayE
 rw [checkE_ren, List.length_map]
theorem gp_renP {l : List PrcT} {i : Nat} (h : i < l.length) : gp (l.map renP) i = renP (gp l i) := by
 unfold gp
 simp [List.getD_eq_getElem?_getD, h]
theorem mayE_in {l : List PrcT} {i : Int} (h : mayE l i = true) : i.toNat < l.length := by
 simp [mayE] at h
 omega
theorem varsE_ren (l : List PrcT) (i : Int) : varsE (l.map renP) i = varsE l i := by
 unfold varsE
 rw [mayE_ren]
 split
 ·rename_i h
  rw [← List.map_take, gp_renP (mayE_in h), lookE_ren]
 ·rfl
mutual
theorem depS_ren {c c' : Str → Int} (h : ∀ n, c' (n ++ sfx) = c n) : ∀ x : Stt, depS c' (renS x) = depS c x
 | .mk k n l op as ns ls b => by
  have hb := depL_ren h b
  rw [renS, depS, depS]
  by_cases k3 : k = 3
  ·subst k3; simp [hb]
  rw [if_neg k3, if_neg k3]
  by_cases k5 : k = 5
  ·subst k5; simp [h]
  rw [if_neg k5, if_neg k5]
theorem depL_ren {c c' : Str → Int} (h : ∀ n, c' (n ++ sfx) = c n) : ∀ b : List Stt, depL c' (renL b) = depL c b
 | [] => by rw [renL, depL, depL]
 | x :: l => by rw [renL, depL, depL, depS_ren h x, depL_ren h l]
end
theorem depC_ren : ∀ (l : List PrcT) (c c' : Str → Int), (∀ n, c' (n ++ sfx) = c n) → ∀ n, depC (l.map renP) c' (n ++ sfx) = depC l c n
 | [], c, c', h, n => h n
 | p :: l, c, c', h, n => by
  rw [List.map_cons, depC, depC]
  refine depC_ren l _ _ (fun m => ?_) n
  rw [show (renP p).body = renL p.body from rfl, depL_ren h, h m, show (renP p).name = p.name ++ sfx from rfl]
  simp only [sfx_inj]
theorem depE_ren (l : List PrcT) (i : Int) : depE (l.map renP) i = depE l i := by
 unfold depE
 rw [mayE_ren]
 split
 ·rename_i h
  rw [← List.map_take, gp_renP (mayE_in h)]
  exact depC_ren _ _ _ (fun _ => rfl) _
 ·rfl
theorem parsE_len (lens : List Str) : ∀ (ps : List ParT) (a : List TypT), (parsE lens ps a).2.length ≤ a.length + ps.length
 | [], a => by simp [parsE]
 | x :: ps, a => by
  rw [parsE]
  split
  ·simp
  ·have := parsE_len lens ps (a ++ [⟨x.name, !decide (x.mode = 1), x.mode⟩])
   simp at this ⊢
   omega
theorem lookE_len (ah : List PrcT) (p : PrcT) : (lookE ah p).2.length ≤ p.params.length + cntL p.body := by
 have h1 := parsE_len p.lens p.params []
 simp at h1
 have h2 := bodyE_len ah p.lens p.body (visE (parsE p.lens p.params []).2) (parsE p.lens p.params []).2
 unfold lookE
 split
 ·simp
 ·split
  ·simp
  ·split
   ·omega
   ·split
    ·dsimp only; omega
    ·split
     ·dsimp only; omega
     ·dsimp only; omega
theorem light_src {l : List PrcT} (hl : okL PrcT.ok l) (h : lightE l = true) : SrcOk l := ⟨hl, fun p hp => by have := (lightE_le h).2 p hp; omega⟩
theorem light_ren {l : List PrcT} (hl : okL PrcT.ok l) (h : lightE l = true) : SrcOk (l.map renP) := by
 have hle := lightE_le h
 have hsh : ∀ p ∈ l, p.name.length ≤ 20 ∧ shL p.body := ligF_sh l 0 (by omega) (by simp [lightE] at h; exact h.2)
 refine ⟨⟨by rw [List.length_map]; exact hl.1, fun q hq => ?_⟩, fun q hq => ?_⟩
 ·obtain ⟨p, hp, rfl⟩ := List.mem_map.1 hq
  obtain ⟨o1, o2, o3, o4, o5, o6⟩ := hl.2 p hp
  refine ⟨?_, o2, o3, o4, o5, ?_⟩
  ·have := (hsh p hp).1
   show (p.name ++ sfx).length ≤ _
   rw [List.length_append, show sfx.length = 2 from rfl]; omega
  ·exact ⟨by show (renL p.body).length ≤ _; rw [renL_map, List.length_map]; exact o6.1, (stsOk_iff _).1 (renL_ok _ ((stsOk_iff _).2 o6.2) (hsh p hp).2)⟩
 ·obtain ⟨p, hp, rfl⟩ := List.mem_map.1 hq
  have := hle.2 p hp
  show p.params.length + cntL (renL p.body) ≤ _
  rw [renL_cnt]; omega
end Go.Sv
namespace Go.Sv
def eqTs : List Field → List TypeId → Bool
 | [], [] => true
 | fd :: l, t :: r => Nat.beq fd.type t && eqTs l r
 | _, _ => false
theorem eqTs_ok : ∀ {l : List Field} {r : List TypeId}, eqTs l r = true → l.map (·.type) = r
 | [], [], _ => rfl
 | [], _ :: _, h => by cases h
 | _ :: _, [], h => by cases h
 | fd :: l, t :: r, h => by
  rw [eqTs, Bool.and_eq_true] at h
  rw [List.map_cons, eqTs_ok h.2, Nat.eq_of_beq_eq_true h.1]
def stB (P : Program) (t : TypeId) (ts : List TypeId) : Bool := match P.underlying t with
 | some (.struct fs) => eqTs fs.toList ts
 | _ => false
theorem stB_ok {P : Program} {t : TypeId} {ts : List TypeId} (h : stB P t ts = true) : ∃ fs, P.underlying t = some (.struct fs) ∧ fs.toList.map (·.type) = ts := by
 unfold stB at h
 split at h
 ·exact ⟨_, by assumption, eqTs_ok h⟩
 ·cases h
section args
variable {P : Program} {tI tS tU tTerm tTerms tLen tArg tArgs tExpr tStrs tLens tStmt tStmts tPar tPars tCla tClas tPrc tPrcs : TypeId}
theorem argV_prcs (T : SrcTy P tI tS tU tTerm tTerms tLen tArg tArgs tExpr tStrs tLens tStmt tStmts tPar tPars tCla tClas tPrc tPrcs) {v : LV} (h : ArgV P tPrcs v) : ∃ l : List PrcT, okL PrcT.ok l ∧ v = .lst (prcC l) l.length 6 := by
 obtain ⟨d, h⟩ := h
 rw [T.prcs] at h
 obtain ⟨l, hl, e⟩ := T.rPrcs h
 exact ⟨l, hl, by injection e⟩
theorem argV_i (hu : P.underlying tI = some (.int .i64)) {v : LV} (h : ArgV P tI v) : ∃ n : Int, inI n ∧ v = .i n := by
 obtain ⟨d, h⟩ := h
 rw [hu] at h
 obtain ⟨n, hn, e⟩ := isv_i hu h
 exact ⟨n, hn, by injection e⟩
end args
end Go.Sv
