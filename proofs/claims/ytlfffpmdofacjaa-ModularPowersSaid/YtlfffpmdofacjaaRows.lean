/-
  No cell of these rows narrows 'for every input' (looked for: loops, veiled, ifaces, maps, wideKeys, modest, calm, conditions, laid).
  DERIVED. THE GIVEN ROWS OF THIS SEAT. 8 by the template 'for every input the law returns true; each argument reads behind the call as it read before'; 0 by the template 'total and deterministic' (their statements: YtlfffpmdofacjaaTotals.lean).
  GIVEN WITH THE SEED: the statements are not yours to turn. If you find one false, say at which input.
  Laid BY PROGRAM, IN A SANDBOX (cutbox-rows.mjs): the forced cells as the released guide's own fill.sh prints them over the translation c497004dfba32399… (all of the seat's roots in one cut). By AI agents, Wed Nov 11 2026. No macro, syntax, notation, axiom, sorry.
-/
import Derived.Test.YtlfffpmdofacjaaChecked
import GoSem.Claim
import GoSem.ClaimJoined
import GoSem.ClaimMapViews
import Derived.JoinedTies
import Derived.KernelRfl
namespace Go.Proofs.Ytlfffpmdofacjaa
/- THE CELL 'sum', in the pinned program and in every row, IS THE sha256 OF THE DUMP (.gsa) THAT YtlfffpmdofacjaaProg.lean LOADS. Nothing in Lean hashes anything: it is a label: what it is worth is what the hold of that sum in a sandbox is worth. -/
noncomputable def Try.pinned : Pinned := { name := "ytlfffpmdofacjaa", sum := "c497004dfba32399385ac7cdfb4f7a09fab5ba2b6c6a68465a66ca778c14ca30", checked := Try.checked }
namespace Rows
def none {H : Type} : Left H := { results := [], args := [] }

/-- 'keysmithlaw27.MarshalJoins': WHATEVER THE INPUT: true; the input reads as it did. -/
def marshalJoinsSpec : ChangeSpec := { name := "marshalJoins", fn := fun _ => fun
  | [d1, d2] => { results := [.lit (.bool true)], args := [d1, d2] }
  | _ => none }
def marshalJoinsRow : OpenClaim := { program := "ytlfffpmdofacjaa", sum := "c497004dfba32399385ac7cdfb4f7a09fab5ba2b6c6a68465a66ca778c14ca30", func := "keysmith/keysmithlaw27.MarshalJoins", spec := "marshalJoins", unfollowed := true, recurses := true, apart := false }
def MarshalJoinsSaid : Prop := marshalJoinsRow.holds Try.pinned (OpenSpec.ofChange marshalJoinsSpec)

/-- ITS FALSE NEIGHBOUR: 'it returns false'. Refute it at one input. -/
def marshalJoinsWrong : ChangeSpec := { name := "marshalJoins", fn := fun _ => fun
  | [d1, d2] => { results := [.lit (.bool false)], args := [d1, d2] }
  | _ => none }
def MarshalJoinsWrongFalsely : Prop := marshalJoinsRow.holds Try.pinned (OpenSpec.ofChange marshalJoinsWrong)

/-- 'keysmithlaw27.MarshalBack': WHATEVER THE INPUT: true; the input reads as it did. -/
def marshalBackSpec : ChangeSpec := { name := "marshalBack", fn := fun _ => fun
  | [d1, d2, d3, d4] => { results := [.lit (.bool true)], args := [d1, d2, d3, d4] }
  | _ => none }
def marshalBackRow : OpenClaim := { program := "ytlfffpmdofacjaa", sum := "c497004dfba32399385ac7cdfb4f7a09fab5ba2b6c6a68465a66ca778c14ca30", func := "keysmith/keysmithlaw27.MarshalBack", spec := "marshalBack", unfollowed := true, recurses := true, apart := false }
def MarshalBackSaid : Prop := marshalBackRow.holds Try.pinned (OpenSpec.ofChange marshalBackSpec)

/-- ITS FALSE NEIGHBOUR: 'it returns false'. Refute it at one input. -/
def marshalBackWrong : ChangeSpec := { name := "marshalBack", fn := fun _ => fun
  | [d1, d2, d3, d4] => { results := [.lit (.bool false)], args := [d1, d2, d3, d4] }
  | _ => none }
def MarshalBackWrongFalsely : Prop := marshalBackRow.holds Try.pinned (OpenSpec.ofChange marshalBackWrong)

/-- 'keysmithlaw03.ModularPowers': WHATEVER THE INPUT: true; the input reads as it did. -/
def modularPowersSpec : ChangeSpec := { name := "modularPowers", fn := fun _ => fun
  | [d1, d2, d3, d4, d5, d6] => { results := [.lit (.bool true)], args := [d1, d2, d3, d4, d5, d6] }
  | _ => none }
def modularPowersRow : OpenClaim := { program := "ytlfffpmdofacjaa", sum := "c497004dfba32399385ac7cdfb4f7a09fab5ba2b6c6a68465a66ca778c14ca30", func := "keysmith/keysmithlaw03.ModularPowers", spec := "modularPowers", unfollowed := true, recurses := true, apart := false }
def ModularPowersSaid : Prop := modularPowersRow.holds Try.pinned (OpenSpec.ofChange modularPowersSpec)

/-- ITS FALSE NEIGHBOUR: 'it returns false'. Refute it at one input. -/
def modularPowersWrong : ChangeSpec := { name := "modularPowers", fn := fun _ => fun
  | [d1, d2, d3, d4, d5, d6] => { results := [.lit (.bool false)], args := [d1, d2, d3, d4, d5, d6] }
  | _ => none }
def ModularPowersWrongFalsely : Prop := modularPowersRow.holds Try.pinned (OpenSpec.ofChange modularPowersWrong)

/-- 'keysmithlaw03.ModularRing': WHATEVER THE INPUT: true; the input reads as it did. -/
def modularRingSpec : ChangeSpec := { name := "modularRing", fn := fun _ => fun
  | [d1, d2, d3, d4, d5, d6] => { results := [.lit (.bool true)], args := [d1, d2, d3, d4, d5, d6] }
  | _ => none }
def modularRingRow : OpenClaim := { program := "ytlfffpmdofacjaa", sum := "c497004dfba32399385ac7cdfb4f7a09fab5ba2b6c6a68465a66ca778c14ca30", func := "keysmith/keysmithlaw03.ModularRing", spec := "modularRing", unfollowed := true, recurses := true, apart := false }
def ModularRingSaid : Prop := modularRingRow.holds Try.pinned (OpenSpec.ofChange modularRingSpec)

/-- ITS FALSE NEIGHBOUR: 'it returns false'. Refute it at one input. -/
def modularRingWrong : ChangeSpec := { name := "modularRing", fn := fun _ => fun
  | [d1, d2, d3, d4, d5, d6] => { results := [.lit (.bool false)], args := [d1, d2, d3, d4, d5, d6] }
  | _ => none }
def ModularRingWrongFalsely : Prop := modularRingRow.holds Try.pinned (OpenSpec.ofChange modularRingWrong)

/-- 'keysmithlaw03.ModularInverse': WHATEVER THE INPUT: true; the input reads as it did. -/
def modularInverseSpec : ChangeSpec := { name := "modularInverse", fn := fun _ => fun
  | [d1, d2, d3] => { results := [.lit (.bool true)], args := [d1, d2, d3] }
  | _ => none }
def modularInverseRow : OpenClaim := { program := "ytlfffpmdofacjaa", sum := "c497004dfba32399385ac7cdfb4f7a09fab5ba2b6c6a68465a66ca778c14ca30", func := "keysmith/keysmithlaw03.ModularInverse", spec := "modularInverse", unfollowed := true, recurses := true, apart := false }
def ModularInverseSaid : Prop := modularInverseRow.holds Try.pinned (OpenSpec.ofChange modularInverseSpec)

/-- ITS FALSE NEIGHBOUR: 'it returns false'. Refute it at one input. -/
def modularInverseWrong : ChangeSpec := { name := "modularInverse", fn := fun _ => fun
  | [d1, d2, d3] => { results := [.lit (.bool false)], args := [d1, d2, d3] }
  | _ => none }
def ModularInverseWrongFalsely : Prop := modularInverseRow.holds Try.pinned (OpenSpec.ofChange modularInverseWrong)

/-- 'keysmithlaw03.ModularReduce': WHATEVER THE INPUT: true; the input reads as it did. -/
def modularReduceSpec : ChangeSpec := { name := "modularReduce", fn := fun _ => fun
  | [d1, d2, d3] => { results := [.lit (.bool true)], args := [d1, d2, d3] }
  | _ => none }
def modularReduceRow : OpenClaim := { program := "ytlfffpmdofacjaa", sum := "c497004dfba32399385ac7cdfb4f7a09fab5ba2b6c6a68465a66ca778c14ca30", func := "keysmith/keysmithlaw03.ModularReduce", spec := "modularReduce", unfollowed := true, recurses := true, apart := false }
def ModularReduceSaid : Prop := modularReduceRow.holds Try.pinned (OpenSpec.ofChange modularReduceSpec)

/-- ITS FALSE NEIGHBOUR: 'it returns false'. Refute it at one input. -/
def modularReduceWrong : ChangeSpec := { name := "modularReduce", fn := fun _ => fun
  | [d1, d2, d3] => { results := [.lit (.bool false)], args := [d1, d2, d3] }
  | _ => none }
def ModularReduceWrongFalsely : Prop := modularReduceRow.holds Try.pinned (OpenSpec.ofChange modularReduceWrong)

/-- 'keysmithlaw03.ModularNames': WHATEVER THE INPUT: true; the input reads as it did. -/
def modularNamesSpec : ChangeSpec := { name := "modularNames", fn := fun _ => fun
  | [] => { results := [.lit (.bool true)], args := [] }
  | _ => none }
def modularNamesRow : OpenClaim := { program := "ytlfffpmdofacjaa", sum := "c497004dfba32399385ac7cdfb4f7a09fab5ba2b6c6a68465a66ca778c14ca30", func := "keysmith/keysmithlaw03.ModularNames", spec := "modularNames", unfollowed := true, recurses := true, apart := false }
def ModularNamesSaid : Prop := modularNamesRow.holds Try.pinned (OpenSpec.ofChange modularNamesSpec)

/-- ITS FALSE NEIGHBOUR: 'it returns false'. Refute it at one input. -/
def modularNamesWrong : ChangeSpec := { name := "modularNames", fn := fun _ => fun
  | [] => { results := [.lit (.bool false)], args := [] }
  | _ => none }
def ModularNamesWrongFalsely : Prop := modularNamesRow.holds Try.pinned (OpenSpec.ofChange modularNamesWrong)

/-- 'keysmithlaw03.ModularCalls': WHATEVER THE INPUT: true; the input reads as it did. -/
def modularCallsSpec : ChangeSpec := { name := "modularCalls", fn := fun _ => fun
  | [d1, d2, d3, d4, d5] => { results := [.lit (.bool true)], args := [d1, d2, d3, d4, d5] }
  | _ => none }
def modularCallsRow : OpenClaim := { program := "ytlfffpmdofacjaa", sum := "c497004dfba32399385ac7cdfb4f7a09fab5ba2b6c6a68465a66ca778c14ca30", func := "keysmith/keysmithlaw03.ModularCalls", spec := "modularCalls", unfollowed := true, recurses := true, apart := false }
def ModularCallsSaid : Prop := modularCallsRow.holds Try.pinned (OpenSpec.ofChange modularCallsSpec)

/-- ITS FALSE NEIGHBOUR: 'it returns false'. Refute it at one input. -/
def modularCallsWrong : ChangeSpec := { name := "modularCalls", fn := fun _ => fun
  | [d1, d2, d3, d4, d5] => { results := [.lit (.bool false)], args := [d1, d2, d3, d4, d5] }
  | _ => none }
def ModularCallsWrongFalsely : Prop := modularCallsRow.holds Try.pinned (OpenSpec.ofChange modularCallsWrong)

/- THE SECOND FORM. 'bulk': how many values and letters a reading holds, each counted each time it is reached (what is shared counts as often as it is met; a slice's spare places count too). A statement '..UptoSaid' is the law's where the arguments, and the package variables that the reading takes, are together of bulk at most 1048576: NARROWER than '..Said'. Prove '..Said' where nothing that the law and all that it calls make is longer than what came in: it says more and counts as full. Else prove '..UptoSaid'. A law counts once. -/
mutual
def uptoBulk {H : Type} : DataW H → Nat
  | .lit (.string bytes) => bytes.length + 1
  | .lit _ => 1
  | .nil => 1
  | .ptr d => uptoBulk d + 1
  | .slice elems spare => uptoBulkAll elems + uptoBulkAll spare + 1
  | .agg parts => uptoBulkAll parts + 1
  | .iface _ d => uptoBulk d + 1
  | .map entries => uptoBulkEntries entries + 1
  | .held _ => 1
def uptoBulkAll {H : Type} : List (DataW H) → Nat
  | [] => 0
  | d :: r => uptoBulk d + uptoBulkAll r
def uptoBulkEntries {H : Type} : List (Lit × DataW H) → Nat
  | [] => 0
  | x :: r => uptoBulkEntry x + uptoBulkEntries r
def uptoBulkEntry {H : Type} : Lit × DataW H → Nat
  | (.string bytes, d) => bytes.length + uptoBulk d + 1
  | (_, d) => uptoBulk d + 1
 end
def uptoSmall : (H : Type) → List (DataW H) → Bool := fun _ ds => decide (uptoBulkAll ds ≤ 1048576)
def OpenSpec.upto (s : _root_.Go.ChangeSpec) : _root_.Go.OpenSpec := { _root_.Go.OpenSpec.ofChange s with cond := some uptoSmall }

/-- 'keysmithlaw27.MarshalJoins', WHERE WHAT IT READS IS OF BULK AT MOST 1048576: true; the input reads as it did. -/
def marshalJoinsUptoRow : OpenClaim := { program := "ytlfffpmdofacjaa", sum := "c497004dfba32399385ac7cdfb4f7a09fab5ba2b6c6a68465a66ca778c14ca30", func := "keysmith/keysmithlaw27.MarshalJoins", spec := "marshalJoins", unfollowed := true, recurses := true, apart := false, narrowed := true }
def MarshalJoinsUptoSaid : Prop := marshalJoinsUptoRow.holds Try.pinned (OpenSpec.upto marshalJoinsSpec)

/-- 'keysmithlaw27.MarshalBack', WHERE WHAT IT READS IS OF BULK AT MOST 1048576: true; the input reads as it did. -/
def marshalBackUptoRow : OpenClaim := { program := "ytlfffpmdofacjaa", sum := "c497004dfba32399385ac7cdfb4f7a09fab5ba2b6c6a68465a66ca778c14ca30", func := "keysmith/keysmithlaw27.MarshalBack", spec := "marshalBack", unfollowed := true, recurses := true, apart := false, narrowed := true }
def MarshalBackUptoSaid : Prop := marshalBackUptoRow.holds Try.pinned (OpenSpec.upto marshalBackSpec)

/-- 'keysmithlaw03.ModularPowers', WHERE WHAT IT READS IS OF BULK AT MOST 1048576: true; the input reads as it did. -/
def modularPowersUptoRow : OpenClaim := { program := "ytlfffpmdofacjaa", sum := "c497004dfba32399385ac7cdfb4f7a09fab5ba2b6c6a68465a66ca778c14ca30", func := "keysmith/keysmithlaw03.ModularPowers", spec := "modularPowers", unfollowed := true, recurses := true, apart := false, narrowed := true }
def ModularPowersUptoSaid : Prop := modularPowersUptoRow.holds Try.pinned (OpenSpec.upto modularPowersSpec)

/-- 'keysmithlaw03.ModularRing', WHERE WHAT IT READS IS OF BULK AT MOST 1048576: true; the input reads as it did. -/
def modularRingUptoRow : OpenClaim := { program := "ytlfffpmdofacjaa", sum := "c497004dfba32399385ac7cdfb4f7a09fab5ba2b6c6a68465a66ca778c14ca30", func := "keysmith/keysmithlaw03.ModularRing", spec := "modularRing", unfollowed := true, recurses := true, apart := false, narrowed := true }
def ModularRingUptoSaid : Prop := modularRingUptoRow.holds Try.pinned (OpenSpec.upto modularRingSpec)

/-- 'keysmithlaw03.ModularInverse', WHERE WHAT IT READS IS OF BULK AT MOST 1048576: true; the input reads as it did. -/
def modularInverseUptoRow : OpenClaim := { program := "ytlfffpmdofacjaa", sum := "c497004dfba32399385ac7cdfb4f7a09fab5ba2b6c6a68465a66ca778c14ca30", func := "keysmith/keysmithlaw03.ModularInverse", spec := "modularInverse", unfollowed := true, recurses := true, apart := false, narrowed := true }
def ModularInverseUptoSaid : Prop := modularInverseUptoRow.holds Try.pinned (OpenSpec.upto modularInverseSpec)

/-- 'keysmithlaw03.ModularReduce', WHERE WHAT IT READS IS OF BULK AT MOST 1048576: true; the input reads as it did. -/
def modularReduceUptoRow : OpenClaim := { program := "ytlfffpmdofacjaa", sum := "c497004dfba32399385ac7cdfb4f7a09fab5ba2b6c6a68465a66ca778c14ca30", func := "keysmith/keysmithlaw03.ModularReduce", spec := "modularReduce", unfollowed := true, recurses := true, apart := false, narrowed := true }
def ModularReduceUptoSaid : Prop := modularReduceUptoRow.holds Try.pinned (OpenSpec.upto modularReduceSpec)

/-- 'keysmithlaw03.ModularNames', WHERE WHAT IT READS IS OF BULK AT MOST 1048576: true; the input reads as it did. -/
def modularNamesUptoRow : OpenClaim := { program := "ytlfffpmdofacjaa", sum := "c497004dfba32399385ac7cdfb4f7a09fab5ba2b6c6a68465a66ca778c14ca30", func := "keysmith/keysmithlaw03.ModularNames", spec := "modularNames", unfollowed := true, recurses := true, apart := false, narrowed := true }
def ModularNamesUptoSaid : Prop := modularNamesUptoRow.holds Try.pinned (OpenSpec.upto modularNamesSpec)

/-- 'keysmithlaw03.ModularCalls', WHERE WHAT IT READS IS OF BULK AT MOST 1048576: true; the input reads as it did. -/
def modularCallsUptoRow : OpenClaim := { program := "ytlfffpmdofacjaa", sum := "c497004dfba32399385ac7cdfb4f7a09fab5ba2b6c6a68465a66ca778c14ca30", func := "keysmith/keysmithlaw03.ModularCalls", spec := "modularCalls", unfollowed := true, recurses := true, apart := false, narrowed := true }
def ModularCallsUptoSaid : Prop := modularCallsUptoRow.holds Try.pinned (OpenSpec.upto modularCallsSpec)

end Rows
end Go.Proofs.Ytlfffpmdofacjaa
