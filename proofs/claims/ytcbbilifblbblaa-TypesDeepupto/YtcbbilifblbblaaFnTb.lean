/- What only grows; a function that tells yes or no. -/
import Derived.Test.YtcbbilifblbblaaSvG3


import Derived.Test.YtcbbilifblbblaaProg
import Derived.KernelRfl
namespace Go.Proofs.Ytcbbilifblbblaa
open Go.Sv
def Ext (G G' : LHeap) : Prop := G.length ≤ G'.length ∧ ∀ z, z < G.length → G'[z]? = G[z]?
theorem Ext.refl (G : LHeap) : Ext G G := ⟨Nat.le_refl _, fun _ _ => rfl⟩
theorem Ext.trans {A B C : LHeap} (h : Ext A B) (k : Ext B C) : Ext A C := ⟨Nat.le_trans h.1 k.1, fun z hz => by rw [k.2 z (Nat.lt_of_lt_of_le hz h.1), h.2 z hz]⟩
theorem Ext.app (G x : LHeap) : Ext G (G ++ x) := ⟨by simp, fun z hz => List.getElem?_append_left hz⟩
theorem Ext.at_ {G G' : LHeap} (h : Ext G G') {z : Nat} {o : LObj} (hz : G[z]? = some o) : G'[z]? = some o := by rw [h.2 z (List.getElem?_eq_some_iff.1 hz).1]; exact hz
def Prd (P : Program) (g : Nat) (fs cap : List LV) (v : LV) (G : LHeap) (b : Bool) : Prop :=
 ∀ G1, Ext G G1 → ∀ K : LV → LHeap → Prop, (∀ G2, Ext G1 G2 → K (.bool b) G2) → CallL P (.fn g) (fs ++ v :: cap) G1 K
end Go.Proofs.Ytcbbilifblbblaa
