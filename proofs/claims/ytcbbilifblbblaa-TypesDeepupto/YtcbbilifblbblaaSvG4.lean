/- Texts of the evaluator, of the logic over it, of plain arithmetic. -/
import Derived.Test.YtcbbilifblbblaaSvG3
namespace Go.Sv
def nmsE (ns : List Str) : Bool := ns.all (fun n => decide (n.length ≤ 20)) && decide (ns.length ≤ 14)
def lnsE (ls : List LenT) : Bool := ls.all (fun l => lightL l.c l.ts) && decide (ls.length ≤ 14)
def badS : Stt → Bool
 | .mk _ n l _ as ns ls _ => decide (20 < n.length) || (!lightL l.c l.ts || (decide (8 < as.length) || (!nmsE ns || !lnsE ls)))
mutual
def stS (most : Int) : Stt → Int → Int
 | .mk _ _ _ _ _ _ _ b, deep => if most < b.length ∨ deep < 0 then most + 1 else stG most b deep b.length
def stG (most : Int) : List Stt → Int → Int → Int
 | [], _, n => n
 | s :: l, deep, n => if badS s = true then most + 1 else if most < n + stS most s (deep - 1) then most + 1 else stG most l deep (n + stS most s (deep - 1))
end
def stN (most deep : Int) (b : List Stt) : Int := if most < b.length ∨ deep < 0 then most + 1 else stG most b deep b.length
theorem stS_N (most deep : Int) : ∀ s : Stt, ∀ k n l op as ns ls b, s = .mk k n l op as ns ls b → stS most s deep = stN most deep b := by
 rintro _ k n l op as ns ls b rfl
 rw [stS, stN]
mutual
theorem stS_le {most : Int} (hm : 0 ≤ most) : ∀ (s : Stt) (deep : Int), 0 ≤ stS most s deep ∧ stS most s deep ≤ most + 1
 | .mk k n l op as ns ls b, deep => by
  rw [stS]
  split
  ·omega
  ·exact stG_le hm b deep _ (by omega) (by omega)
theorem stG_le {most : Int} (hm : 0 ≤ most) : ∀ (b : List Stt) (deep n : Int), 0 ≤ n → n ≤ most → 0 ≤ stG most b deep n ∧ stG most b deep n ≤ most + 1
 | [], deep, n, h0, h1 => by rw [stG]; omega
 | s :: l, deep, n, h0, h1 => by
  rw [stG]
  have hs := stS_le hm s (deep - 1)
  split
  ·omega
  ·split
   ·omega
   ·exact stG_le hm l deep _ (by omega) (by omega)
end
theorem stN_le {most : Int} (hm : 0 ≤ most) (deep : Int) (b : List Stt) : 0 ≤ stN most deep b ∧ stN most deep b ≤ most + 1 := by
 rw [stN]
 split
 ·omega
 ·exact stG_le hm b deep _ (by omega) (by omega)
mutual
theorem stS_cnt {most : Int} (hm : 0 ≤ most) : ∀ (s : Stt) (deep : Int), stS most s deep ≤ most → (cntS s : Int) ≤ 1 + stS most s deep
 | .mk k n l op as ns ls b, deep, h => by
  rw [stS] at h ⊢
  rw [cntS]
  split at h
  ·omega
  ·rename_i hc
   rw [if_neg hc]
   have := stG_cnt hm b deep _ (by omega) (by omega) h
   omega
theorem stG_cnt {most : Int} (hm : 0 ≤ most) : ∀ (b : List Stt) (deep n : Int), 0 ≤ n → n ≤ most → stG most b deep n ≤ most → n + (cntL b : Int) - b.length ≤ stG most b deep n
 | [], deep, n, h0, h1, h => by rw [stG, cntL, List.length_nil]; omega
 | s :: l, deep, n, h0, h1, h => by
  rw [stG] at h ⊢
  have hs := stS_le hm s (deep - 1)
  split at h
  ·omega
  ·rename_i c1
   rw [if_neg c1]
   split at h
   ·omega
   ·rename_i c2
    rw [if_neg c2]
    have h1 := stS_cnt hm s (deep - 1) (by omega)
    have h2 := stG_cnt hm l deep _ (by omega) (by omega) h
    rw [cntL, List.length_cons]
    push_cast
    omega
end
theorem stN_cnt {most deep : Int} (hm : 0 ≤ most) {b : List Stt} (h : stN most deep b ≤ most) : (cntL b : Int) ≤ stN most deep b := by
 rw [stN] at h ⊢
 split at h
 ·omega
 ·rename_i hc
  rw [if_neg hc]
  have := stG_cnt hm b deep _ (by omega) (by omega) h
  omega
theorem stG_cut {b : List Stt} {i : Nat} {s : Stt} (h : b[i]? = some s) (most deep n : Int) : stG most (b.drop i) deep n = if badS s = true then most + 1 else if most < n + stS most s (deep - 1) then most + 1 else stG most (b.drop (i + 1)) deep (n + stS most s (deep - 1)) := by
 have hj := (List.getElem?_eq_some_iff.1 h).1
 rw [List.drop_eq_getElem_cons hj]
 have : b[i] = s := by have := List.getElem?_eq_getElem hj; rw [h] at this; exact (Option.some.inj this).symm
 rw [this, stG]
def badP (p : PrcT) : Bool := decide (20 < p.name.length) || (!nmsE p.lens || (decide (14 < p.params.length) || (decide (10 < p.req.length) || decide (10 < p.ens.length))))
def ligF : List PrcT → Int → Bool
 | [], n => decide (n ≤ 40)
 | p :: l, n => if badP p = true then false else if (p.params.all fun x => lightL x.len.c x.len.ts) = false then false else ligF l (n + stN 40 6 p.body)
def lightE (l : List PrcT) : Bool := decide (l.length ≤ 5) && ligF l 0
theorem ligF_cut {l : List PrcT} {i : Nat} {p : PrcT} (h : l[i]? = some p) (n : Int) : ligF (l.drop i) n = if badP p = true then false else if (p.params.all fun x => lightL x.len.c x.len.ts) = false then false else ligF (l.drop (i + 1)) (n + stN 40 6 p.body) := by
 have hj := (List.getElem?_eq_some_iff.1 h).1
 rw [List.drop_eq_getElem_cons hj]
 have : l[i] = p := by have := List.getElem?_eq_getElem hj; rw [h] at this; exact (Option.some.inj this).symm
 rw [this, ligF]
theorem ligF_le : ∀ (l : List PrcT) (n : Int), 0 ≤ n → ligF l n = true → ∀ p ∈ l, p.params.length + cntL p.body ≤ 54
 | [], _, _, _ => fun p hp => by cases hp
 | q :: l, n, h0, h => by
  have hs := stN_le (most := 40) (by omega) 6 q.body
  have mono : ∀ (l : List PrcT) (n : Int), ligF l n = true → n ≤ 40 := by
   intro l
   induction l with
   | nil => intro n h; simpa [ligF] using h
   | cons p l ih =>
    intro n h
    rw [ligF] at h
    split at h
    ·cases h
    ·split at h
     ·cases h
     ·have := ih _ h
      have := stN_le (most := 40) (by omega) 6 p.body
      omega
  rw [ligF] at h
  split at h
  ·cases h
  ·rename_i hb
   split at h
   ·cases h
   ·intro p hp
    rcases List.mem_cons.1 hp with rfl | hp
    ·have h1 := mono _ _ h
     have h2 := stN_cnt (most := 40) (deep := 6) (by omega) (b := p.body) (by omega)
     have h3 : p.params.length ≤ 14 := by
      simp [badP] at hb
      omega
     omega
    ·exact ligF_le l _ (by omega) h p hp
theorem lightE_le {l : List PrcT} (h : lightE l = true) : l.length ≤ 5 ∧ ∀ p ∈ l, p.params.length + cntL p.body ≤ 54 := by
 simp [lightE] at h
 exact ⟨h.1, ligF_le l 0 (by omega) h.2⟩
end Go.Sv
namespace Go.Sv
def sfx : Str := [95, 112]
mutual
def renS : Stt → Stt
 | .mk k n l op as ns ls b => .mk k (if k = 5 then n ++ sfx else n) l op as ns ls (if k = 3 then renL b else b)
def renL : List Stt → List Stt
 | [] => []
 | s :: l => renS s :: renL l
end
theorem renL_map : ∀ l : List Stt, renL l = l.map renS
 | [] => rfl
 | s :: l => by rw [renL, renL_map l]; rfl
mutual
def shS : Stt → Prop
 | .mk _ n _ _ _ _ _ b => n.length ≤ 20 ∧ shL b
def shL : List Stt → Prop
 | [] => True
 | s :: l => shS s ∧ shL l
end
mutual
theorem stS_sh {most : Int} (hm : 0 ≤ most) : ∀ (s : Stt) (deep : Int), stS most s deep ≤ most → badS s = false → shS s
 | .mk k n l op as ns ls b, deep, h, hb => by
  rw [stS] at h
  rw [shS]
  refine ⟨by simp [badS] at hb; omega, ?_⟩
  split at h
  ·omega
  ·exact stG_sh hm b deep _ (by omega) (by omega) h
theorem stG_sh {most : Int} (hm : 0 ≤ most) : ∀ (b : List Stt) (deep n : Int), 0 ≤ n → n ≤ most → stG most b deep n ≤ most → shL b
 | [], _, _, _, _, _ => by rw [shL]; trivial
 | s :: l, deep, n, h0, h1, h => by
  rw [stG] at h
  have hs := stS_le hm s (deep - 1)
  rw [shL]
  split at h
  ·omega
  ·rename_i c1
   split at h
   ·omega
   ·exact ⟨stS_sh hm s (deep - 1) (by omega) (by simpa using c1), stG_sh hm l deep _ (by omega) (by omega) h⟩
end
mutual
theorem renS_ok : ∀ s : Stt, s.ok → shS s → (renS s).ok
 | .mk k n l op as ns ls b, h, hs => by
  rw [Stt.ok] at h
  rw [shS] at hs
  obtain ⟨o1, o2, o3, o4, o5, o6, o7, o8, o9⟩ := h
  rw [renS, Stt.ok]
  refine ⟨o1, ?_, o3, o4, o5, o6, o7, ?_, ?_⟩
  ·unfold okStr
   split
   ·rw [List.length_append, show sfx.length = 2 from rfl]; omega
   ·omega
  ·split
   ·rw [renL_map, List.length_map]; exact o8
   ·exact o8
  ·split
   ·exact renL_ok b o9 hs.2
   ·exact o9
theorem renL_ok : ∀ l : List Stt, stsOk l → shL l → stsOk (renL l)
 | [], _, _ => by rw [renL, stsOk]; trivial
 | s :: l, h, hs => by
  rw [stsOk] at h
  rw [shL] at hs
  rw [renL, stsOk]
  exact ⟨renS_ok s h.1 hs.1, renL_ok l h.2 hs.2⟩
end
mutual
theorem renS_cnt : ∀ s : Stt, cntS (renS s) = cntS s
 | .mk k n l op as ns ls b => by
  rw [renS, cntS, cntS]
  split
  ·rw [renL_cnt b]
  ·rfl
theorem renL_cnt : ∀ l : List Stt, cntL (renL l) = cntL l
 | [] => by rw [renL]
 | s :: l => by rw [renL, cntL, cntL, renS_cnt s, renL_cnt l]
end
def renP (p : PrcT) : PrcT := { p with name := p.name ++ sfx, body := renL p.body }
theorem fm_put {α : Type} {f : α → List LV} {k : Nat} (hf : ∀ a, (f a).length = k) {l : List α} {i j : Nat} {x y : α} {v : LV} (hx : l[i]? = some x) (hj : j < k) (hy : f y = (f x).set j v) : (l.flatMap f).set (i * k + j) v = (l.set i y).flatMap f := by
 have hi := (List.getElem?_eq_some_iff.1 hx).1
 apply List.ext_getElem?
 intro z
 by_cases hz : z < l.length * k
 ·have hk : 0 < k := by omega
  have hq : z = z / k * k + z % k := by have := Nat.div_add_mod z k; rw [Nat.mul_comm] at this; omega
  have hq1 : z / k < l.length := (Nat.div_lt_iff_lt_mul hk).2 hz
  have hq2 : z % k < k := Nat.mod_lt _ hk
  generalize z / k = q at *
  generalize z % k = r at *
  subst hq
  obtain ⟨w, hw⟩ : ∃ w, l[q]? = some w := ⟨_, List.getElem?_eq_getElem hq1⟩
  by_cases e : q = i
  ·subst e
   rw [hx] at hw
   cases hw
   have h1 : (l.set q y)[q]? = some y := List.getElem?_set_self hi
   rw [fm_at hf h1 hq2, hy]
   by_cases e2 : r = j
   ·subst e2
    rw [List.getElem?_set_self (by rw [fm_len hf]; exact hz), List.getElem?_set_self (by rw [hf]; exact hq2)]
   ·rw [List.getElem?_set_ne (by omega), List.getElem?_set_ne (by omega), fm_at hf hx hq2]
  ·have h1 : (l.set i y)[q]? = some w := by rw [List.getElem?_set_ne (by omega)]; exact hw
   have hne : i * k + j ≠ q * k + r := by
    intro e3
    rcases Nat.lt_or_gt_of_ne e with h | h
    ·have := Nat.mul_le_mul_right k h; rw [Nat.succ_mul] at this; omega
    ·have := Nat.mul_le_mul_right k h; rw [Nat.succ_mul] at this; omega
   rw [List.getElem?_set_ne hne, fm_at hf hw hq2, fm_at hf h1 hq2]
 ·have h1 : (l.flatMap f).length = l.length * k := fm_len hf l
  have h2 : ((l.set i y).flatMap f).length = l.length * k := by rw [fm_len hf, List.length_set]
  rw [List.getElem?_eq_none (by rw [List.length_set]; omega), List.getElem?_eq_none (by omega)]
end Go.Sv
namespace Go.Sv
end Go.Sv
namespace Go.Sv
theorem ixZ_map {α β : Type} (f : α → β) (p : β → Bool) (l : List α) : ixZ p (l.map f) = ixZ (fun a => p (f a)) l := by
 unfold ixZ
 rw [List.findIdx_map, List.length_map]
 rfl
theorem renP_name {p : PrcT} {n : Str} : decide ((renP p).name = n ++ sfx) = decide (p.name = n) := by simp [renP]
theorem gp_ren (l : List PrcT) (i : Nat) : (gp (l.map renP) i).lens = (gp l i).lens ∧ (gp (l.map renP) i).params = (gp l i).params := by
 unfold gp
 simp only [List.getD_eq_getElem?_getD, List.getElem?_map]
 cases l[i]? <;> simp [renP]
theorem calE_ren (ah : List PrcT) (lens : List Str) (n : Str) (ns : List Str) (ls : List LenT) (s : Sc) : calE (ah.map renP) lens (n ++ sfx) ns ls s = calE ah lens n ns ls s := by
 have hi : ixZ (fun p => decide (p.name = n ++ sfx)) (ah.map renP) = ixZ (fun p => decide (p.name = n)) ah := by
  rw [ixZ_map]
  congr 1
  funext p
  exact renP_name
 unfold calE
 rw [hi]
 have hg := gp_ren ah (ixZ (fun p => decide (p.name = n)) ah).toNat
 unfold calF
 rw [hg.1, hg.2]
mutual
theorem stmtE_ren (ah : List PrcT) (lens : List Str) : ∀ (x : Stt) (s : Sc) (all : List TypT), stmtE (ah.map renP) lens (renS x) s all = stmtE ah lens x s all
 | .mk k n l op as ns ls b, s, all => by
  have hb := bodyE_ren ah lens b s all
  rw [renS, stmtE, stmtE]
  by_cases k1 : k = 1
  ·subst k1; simp
  rw [if_neg k1, if_neg k1]
  by_cases k2 : k = 2
  ·subst k2; simp
  rw [if_neg k2, if_neg k2]
  by_cases k3 : k = 3
  ·subst k3; simp [hb]
  rw [if_neg k3, if_neg k3]
  by_cases k4 : k = 4
  ·subst k4; simp
  rw [if_neg k4, if_neg k4]
  by_cases k5 : k = 5
  ·subst k5; simp [calE_ren]
  rw [if_neg k5, if_neg k5]
theorem bodyE_ren (ah : List PrcT) (lens : List Str) : ∀ (b : List Stt) (s : Sc) (all : List TypT), bodyE (ah.map renP) lens (renL b) s all = bodyE ah lens b s all
 | [], s, all => by rw [renL, bodyE, bodyE]
 | x :: l, s, all => by
  rw [renL, bodyE, bodyE, stmtE_ren ah lens x s all, bodyE_ren ah lens l]
end
mutual
theorem depS_ren {c c' : Str → Int} (h : ∀ n, c' (n ++ sfx) = c n) : ∀ x : Stt, depS c' (renS x) = depS c x
 | .mk k n l op as ns ls b => by
  have hb := depL_ren h b
  rw [renS, depS, depS]
  by_cases k3 : k = 3
  ·subst k3; simp [hb]
  rw [if_neg k3, if_neg k3]
  by_cases k5 : k = 5
  ·subst k5; simp [h]
  rw [if_neg k5, if_neg k5]
theorem depL_ren {c c' : Str → Int} (h : ∀ n, c' (n ++ sfx) = c n) : ∀ b : List Stt, depL c' (renL b) = depL c b
 | [] => by rw [renL, depL, depL]
 | x :: l => by rw [renL, depL, depL, depS_ren h x, depL_ren h l]
end
end Go.Sv
namespace Go.Sv
def eqTs : List Field → List TypeId → Bool
 | [], [] => true
 | fd :: l, t :: r => Nat.beq fd.type t && eqTs l r
 | _, _ => false
theorem eqTs_ok : ∀ {l : List Field} {r : List TypeId}, eqTs l r = true → l.map (·.type) = r
 | [], [], _ => rfl
 | [], _ :: _, h => by cases h
 | _ :: _, [], h => by cases h
 | fd :: l, t :: r, h => by
  rw [eqTs, Bool.and_eq_true] at h
  rw [List.map_cons, eqTs_ok h.2, Nat.eq_of_beq_eq_true h.1]
def stB (P : Program) (t : TypeId) (ts : List TypeId) : Bool := match P.underlying t with
 | some (.struct fs) => eqTs fs.toList ts
 | _ => false
theorem stB_ok {P : Program} {t : TypeId} {ts : List TypeId} (h : stB P t ts = true) : ∃ fs, P.underlying t = some (.struct fs) ∧ fs.toList.map (·.type) = ts := by
 unfold stB at h
 split at h
 ·exact ⟨_, by assumption, eqTs_ok h⟩
 ·cases h
section args
variable {P : Program} {tI tS tU tTerm tTerms tLen tArg tArgs tExpr tStrs tLens tStmt tStmts tPar tPars tCla tClas tPrc tPrcs : TypeId}
theorem argV_prcs (T : SrcTy P tI tS tU tTerm tTerms tLen tArg tArgs tExpr tStrs tLens tStmt tStmts tPar tPars tCla tClas tPrc tPrcs) {v : LV} (h : ArgV P tPrcs v) : ∃ l : List PrcT, okL PrcT.ok l ∧ v = .lst (prcC l) l.length 6 := by
 obtain ⟨d, h⟩ := h
 rw [T.prcs] at h
 obtain ⟨l, hl, e⟩ := T.rPrcs h
 exact ⟨l, hl, by injection e⟩
end args
end Go.Sv
namespace Go.Sv
def wrapS (b : List Stt) : Stt := .mk 3 [] ⟨2, []⟩ [] [] [] [] b
def wrapP (p : PrcT) : PrcT := { p with body := [wrapS p.body] }
theorem lookE_wrap {ah : List PrcT} {p : PrcT} (h : (lookE ah p).1 = 0) : (lookE ah (wrapP p)).1 = 0 := by
 unfold lookE at h ⊢
 rw [show (wrapP p).name = p.name from rfl, show (wrapP p).lens = p.lens from rfl, show (wrapP p).params = p.params from rfl, show (wrapP p).req = p.req from rfl, show (wrapP p).ens = p.ens from rfl, show (wrapP p).body = [wrapS p.body] from rfl]
 generalize (parsE p.lens p.params []) = pe at *
 have hb : (bodyE ah p.lens p.body (visE pe.2) pe.2).1 = 0 → (bodyE ah p.lens [wrapS p.body] (visE pe.2) pe.2).1 = 0 := fun h => by
  rw [bodyE]
  have hs : stmtE ah p.lens (wrapS p.body) (visE pe.2) pe.2 = ((bodyE ah p.lens p.body (visE pe.2) pe.2).1, visE pe.2, (bodyE ah p.lens p.body (visE pe.2) pe.2).2.2) := by
   rw [wrapS, stmtE, if_neg (by decide), if_neg (by decide), if_pos rfl, if_neg (by simp [foreignE])]
  rw [hs]
  simp only [h, if_true]
  rw [bodyE]
 split at h
 ·cases h
 ·rename_i c1
  rw [if_neg c1]
  split at h
  ·cases h
  ·rename_i c2
   rw [if_neg c2]
   split at h
   ·rename_i c3
    exact absurd h c3
   ·rename_i c3
    rw [if_neg c3]
    split at h
    ·rename_i c4
     exact absurd h c4
    ·rename_i c4
     rw [if_neg c4]
     split at h
     ·rename_i c5
      exact absurd h c5
     ·rename_i c5
      rw [if_neg c5]
      exact hb h
theorem checkF_zero {l : List PrcT} : ∀ (r : List PrcT) (i : Nat), (checkF l r i).2 = 0 ↔ ∀ j p, r[j]? = some p → (lookE (l.take (i + j)) p).1 = 0
 | [], i => by simp [checkF]
 | q :: r, i => by
  rw [checkF]
  have ih := checkF_zero (l := l) r (i + 1)
  constructor
  ·intro h
   split at h
   ·rename_i c; exact absurd h c
   ·rename_i c
    intro j p hj
    rcases j with _ | j
    ·simp at hj
     subst hj
     simpa using c
    ·have := ih.1 h j p (by simpa using hj)
     rwa [show i + 1 + j = i + (j + 1) by omega] at this
  ·intro h
   have h0 := h 0 q rfl
   rw [Nat.add_zero] at h0
   rw [if_neg (fun c => c h0)]
   refine ih.2 fun j p hj => ?_
   have := h (j + 1) p (by simpa using hj)
   rwa [show i + 1 + j = i + (j + 1) by omega]
theorem checkE_zero {l : List PrcT} (h : l ≠ []) : (checkE l).2 = 0 ↔ ∀ j p, l[j]? = some p → (lookE (l.take j) p).1 = 0 := by
 rw [checkE, if_neg h, checkF_zero]
 simp
section wrap
variable {l : List PrcT}
def lastW (l : List PrcT) : List PrcT := l.set (l.length - 1) (wrapP (gp l (l.length - 1)))
theorem lastW_len : (lastW l).length = l.length := by simp [lastW]
theorem lastW_take {j : Nat} (hj : j ≤ l.length - 1) : (lastW l).take j = l.take j := by
 unfold lastW
 rw [List.take_set_of_le hj]
theorem lastW_at (h : l ≠ []) : (lastW l)[l.length - 1]? = some (wrapP (gp l (l.length - 1))) := by
 have : l.length ≠ 0 := fun e => h (List.length_eq_zero_iff.1 e)
 exact List.getElem?_set_self (by omega)
theorem lastW_lt {j : Nat} (hj : j < l.length - 1) : (lastW l)[j]? = l[j]? := List.getElem?_set_ne (by omega)
theorem gp_of {l : List PrcT} {j : Nat} {p : PrcT} (h : l[j]? = some p) : gp l j = p := by
 simp [gp, List.getD_eq_getElem?_getD, h]
theorem lastW_check (h : l ≠ []) (hc : (checkE l).2 = 0) : (checkE (lastW l)).2 = 0 := by
 have hlen : l.length ≠ 0 := fun e => h (List.length_eq_zero_iff.1 e)
 have hne : lastW l ≠ [] := fun e => by have := lastW_len (l := l); rw [e] at this; simp at this; omega
 rw [checkE_zero h] at hc
 rw [checkE_zero hne]
 intro j p hj
 have hjl := (List.getElem?_eq_some_iff.1 hj).1
 rw [lastW_len] at hjl
 rw [lastW_take (by omega)]
 by_cases e : j = l.length - 1
 ·subst e
  rw [lastW_at h] at hj
  cases hj
  exact lookE_wrap (hc _ _ (gp_at (by omega)))
 ·rw [lastW_lt (by omega)] at hj
  exact hc j p hj
theorem depC_app : ∀ (a b : List PrcT) (c : Str → Int), depC (a ++ b) c = depC b (depC a c)
 | [], _, _ => rfl
 | p :: a, b, c => by rw [List.cons_append, depC, depC, depC_app a b]
theorem depL_wrap (c : Str → Int) (b : List Stt) : depL c [wrapS b] = depL c b + 1 := by
 have := depL_ge (c := c) b
 rw [depL, depL, wrapS, depS, if_pos rfl]
 omega
theorem depE_one {l : List PrcT} {j : Nat} (hc : (checkE l).2 = 0) (hj : j < l.length) : depE l j = depL (depC (l.take j) fun _ => 0) (gp l j).body := by
 have hm : mayE l j = true := by simp [mayE, hc, hj]
 rw [depE, if_pos hm]
 have e : ((j : Int).toNat) = j := by omega
 rw [e, List.take_succ_eq_append_getElem hj, depC_app]
 have hg : gp l j = l[j] := gp_of (List.getElem?_eq_getElem hj)
 rw [depC, depC, hg]
 simp
theorem deep_more (h : l ≠ []) (hc : (checkE l).2 = 0) : depE (lastW l) (l.length - 1 : Nat) = depE l (l.length - 1 : Nat) + 1 := by
 have hlen : l.length ≠ 0 := fun e => h (List.length_eq_zero_iff.1 e)
 rw [depE_one hc (by omega), depE_one (lastW_check h hc) (by rw [lastW_len]; omega), lastW_take (by omega), gp_of (lastW_at h)]
 exact depL_wrap _ _
theorem depC_le : ∀ (L : List PrcT) (c : Str → Int) (M : Int), 0 ≤ M → (∀ n, c n ≤ M) → (∀ p ∈ L, cntL p.body ≤ 54) → ∀ n, depC L c n ≤ M + 54 * L.length
 | [], c, M, _, hc, _, n => by have := hc n; rw [depC, List.length_nil]; omega
 | p :: L, c, M, h0, hc, hL, n => by
  rw [depC, List.length_cons]
  have h1 := depL_le h0 hc p.body
  have h2 := hL p (by simp)
  have := depC_le L (fun n => if n = p.name then depL c p.body else c n) (M + 54) (by omega) (fun m => by
   split
   ·omega
   ·have := hc m; omega) (fun q hq => hL q (by simp [hq])) n
  omega
theorem deep_le {i : Int} (hn : l.length ≤ 5) (hb : ∀ p ∈ l, p.params.length + cntL p.body ≤ 54) : depE l i ≤ 1000 := by
 unfold depE
 split
 ·have := depC_le (l.take (i.toNat + 1)) (fun _ => 0) 0 (by omega) (fun _ => by omega) (fun p hp => by have := hb p (List.mem_of_mem_take hp); omega) (gp l i.toNat).name
  have h2 : (l.take (i.toNat + 1)).length ≤ 5 := by rw [List.length_take]; omega
  omega
 ·omega
theorem deep_ge (h : l ≠ []) (hc : (checkE l).2 = 0) : 0 ≤ depE l (l.length - 1 : Nat) := by
 have hlen : l.length ≠ 0 := fun e => h (List.length_eq_zero_iff.1 e)
 rw [depE_one hc (by omega)]
 exact depL_ge _
theorem deep_same (h : l ≠ []) (hc : (checkE l).2 = 0) {j : Nat} (hj : j < l.length - 1) : depE (lastW l) j = depE l j := by
 rw [depE_one hc (by omega), depE_one (lastW_check h hc) (by rw [lastW_len]; omega), lastW_take (by omega)]
 have : gp (lastW l) j = gp l j := by rw [gp, gp, List.getD_eq_getElem?_getD, List.getD_eq_getElem?_getD, lastW_lt hj]
 rw [this]
theorem lastW_src (h : l ≠ []) (hs : SrcOk l) (hb : ∀ p ∈ l, p.params.length + cntL p.body ≤ 54) : SrcOk (lastW l) := by
 have hlen : l.length ≠ 0 := fun e => h (List.length_eq_zero_iff.1 e)
 have hmem : gp l (l.length - 1) ∈ l := List.mem_iff_getElem?.2 ⟨_, gp_at (by omega)⟩
 have key : ∀ p ∈ lastW l, p ∈ l ∨ p = wrapP (gp l (l.length - 1)) := fun p hp => (List.mem_or_eq_of_mem_set hp)
 refine ⟨⟨by rw [lastW_len]; exact hs.1.1, fun p hp => ?_⟩, fun p hp => ?_⟩
 ·rcases key p hp with hp | rfl
  ·exact hs.1.2 p hp
  ·obtain ⟨o1, o2, o3, o4, o5, o6⟩ := hs.1.2 _ hmem
   refine ⟨o1, o2, o3, o4, o5, by simp [wrapP], fun s hs' => ?_⟩
   have : s = wrapS (gp l (l.length - 1)).body := by simpa [wrapP] using hs'
   subst this
   rw [wrapS, Stt.ok]
   exact ⟨by unfold inI; omega, by simp [okStr], ⟨by show inI 2; unfold inI; omega, by simp, by simp⟩, by simp [okStr], ⟨by simp, by simp⟩, ⟨by simp, by simp⟩, ⟨by simp, by simp⟩, o6.1, (stsOk_iff _).2 o6.2⟩
 ·rcases key p hp with hp | rfl
  ·exact hs.2 p hp
  ·have := hb _ hmem
   show (gp l (l.length - 1)).params.length + cntL [wrapS (gp l (l.length - 1)).body] ≤ _
   rw [cntL, cntL, wrapS, cntS]
   omega
end wrap
theorem szVs_flat {α : Type} {f : α → List LV} {g : α → Nat} (h : ∀ a, g a ≤ szVs (f a)) : ∀ (l : List α) (a : α), a ∈ l → g a ≤ szVs (l.flatMap f)
 | [], a, ha => by cases ha
 | b :: l, a, ha => by
  rw [List.flatMap_cons, szVs_app]
  rcases List.mem_cons.1 ha with rfl | ha
  ·have := h a; omega
  ·have := szVs_flat h l a ha; omega
theorem szVs_len {α : Type} {f : α → List LV} (h : ∀ a, 1 ≤ szVs (f a)) : ∀ (l : List α), l.length ≤ szVs (l.flatMap f)
 | [] => by simp
 | b :: l => by
  rw [List.flatMap_cons, szVs_app, List.length_cons]
  have := h b
  have := szVs_len h l
  omega
mutual
theorem szS : ∀ s : Stt, cntS s ≤ szVs s.f
 | .mk k n l op as ns ls b => by
  have := szL b
  rw [cntS, Stt.f]
  simp only [szVs, szV]
  omega
theorem szL : ∀ l : List Stt, cntL l ≤ szVs (stC l)
 | [] => by rw [cntL]; omega
 | s :: l => by
  have h1 := szS s
  have h2 := szL l
  rw [cntL, stC, szVs_app]
  omega
end
theorem szP (p : PrcT) : p.params.length + cntL p.body ≤ szVs p.f := by
 have h1 := szL p.body
 have h2 := szVs_len (f := ParT.f) (fun a => by simp [ParT.f, szVs, szV]) p.params
 rw [show (p.params.flatMap ParT.f) = parC p.params from rfl] at h2
 simp only [PrcT.f, szVs, szV]
 omega
theorem src_of {l : List PrcT} (hl : okL PrcT.ok l) (h : szVs (prcC l) ≤ 1000000000) : SrcOk l :=
 ⟨hl, fun p hp => Nat.le_trans (szVs_flat szP l p hp) h⟩
end Go.Sv
