/-
  No cell of these rows narrows 'for every input' (looked for: loops, veiled, ifaces, maps, wideKeys, modest, calm, conditions, laid).
  DERIVED. THE GIVEN ROWS OF THIS SEAT. 6 by the template 'for every input the law returns true; each argument reads behind the call as it read before'; 0 by the template 'total and deterministic' (their statements: YtnbnhnjffiagmaaGreatTotals.lean).
  GIVEN WITH THE SEED: the statements are not yours to turn. If you find one false, say at which input.
  Laid BY PROGRAM, IN A SANDBOX (cutbox-rows.mjs): the forced cells as the released guide's own fill.sh prints them over the translation 7959b64ea935fbe9… (all of the seat's roots in one cut). By AI agents, Wed Nov 11 2026. No macro, syntax, notation, axiom, sorry.
-/
import Derived.Test.YtnbnhnjffiagmaaGreatChecked
import GoSem.Claim
import GoSem.ClaimJoined
import GoSem.ClaimMapViews
import Derived.JoinedTies
import Derived.KernelRfl
namespace Go.Proofs.YtnbnhnjffiagmaaGreat
/- THE CELL 'sum', in the pinned program and in every row, IS THE sha256 OF THE DUMP (.gsa) THAT YtnbnhnjffiagmaaGreatProg.lean LOADS. Nothing in Lean hashes anything: it is a label: what it is worth is what the hold of that sum in a sandbox is worth. -/
noncomputable def Tryz.pinned : Pinned := { name := "ytnbnhnjffiagmaagreat", sum := "7959b64ea935fbe95ffe044e8e06234f03646085bc1dc49c3e3509055a6cc2ac", checked := Tryz.checked }
namespace Rows
def none {H : Type} : Left H := { results := [], args := [] }

/-- 'keysmithlaw20.DenoteNames': WHATEVER THE INPUT: true; the input reads as it did. -/
def denoteNamesSpec : ChangeSpec := { name := "denoteNames", fn := fun _ => fun
  | [] => { results := [.lit (.bool true)], args := [] }
  | _ => none }
def denoteNamesRow : OpenClaim := { program := "ytnbnhnjffiagmaagreat", sum := "7959b64ea935fbe95ffe044e8e06234f03646085bc1dc49c3e3509055a6cc2ac", func := "keysmith/keysmithlaw20.DenoteNames", spec := "denoteNames", unfollowed := true, recurses := true, apart := false }
def DenoteNamesSaid : Prop := denoteNamesRow.holds Tryz.pinned (OpenSpec.ofChange denoteNamesSpec)

/-- ITS FALSE NEIGHBOUR: 'it returns false'. Refute it at one input. -/
def denoteNamesWrong : ChangeSpec := { name := "denoteNames", fn := fun _ => fun
  | [] => { results := [.lit (.bool false)], args := [] }
  | _ => none }
def DenoteNamesWrongFalsely : Prop := denoteNamesRow.holds Tryz.pinned (OpenSpec.ofChange denoteNamesWrong)

/-- 'keysmithlaw20.DenoteCalls': WHATEVER THE INPUT: true; the input reads as it did. -/
def denoteCallsSpec : ChangeSpec := { name := "denoteCalls", fn := fun _ => fun
  | [d1, d2, d3, d4, d5] => { results := [.lit (.bool true)], args := [d1, d2, d3, d4, d5] }
  | _ => none }
def denoteCallsRow : OpenClaim := { program := "ytnbnhnjffiagmaagreat", sum := "7959b64ea935fbe95ffe044e8e06234f03646085bc1dc49c3e3509055a6cc2ac", func := "keysmith/keysmithlaw20.DenoteCalls", spec := "denoteCalls", unfollowed := true, recurses := true, apart := false }
def DenoteCallsSaid : Prop := denoteCallsRow.holds Tryz.pinned (OpenSpec.ofChange denoteCallsSpec)

/-- ITS FALSE NEIGHBOUR: 'it returns false'. Refute it at one input. -/
def denoteCallsWrong : ChangeSpec := { name := "denoteCalls", fn := fun _ => fun
  | [d1, d2, d3, d4, d5] => { results := [.lit (.bool false)], args := [d1, d2, d3, d4, d5] }
  | _ => none }
def DenoteCallsWrongFalsely : Prop := denoteCallsRow.holds Tryz.pinned (OpenSpec.ofChange denoteCallsWrong)

/-- 'keysmithlaw20.DenoteBounds': WHATEVER THE INPUT: true; the input reads as it did. -/
def denoteBoundsSpec : ChangeSpec := { name := "denoteBounds", fn := fun _ => fun
  | [d1, d2] => { results := [.lit (.bool true)], args := [d1, d2] }
  | _ => none }
def denoteBoundsRow : OpenClaim := { program := "ytnbnhnjffiagmaagreat", sum := "7959b64ea935fbe95ffe044e8e06234f03646085bc1dc49c3e3509055a6cc2ac", func := "keysmith/keysmithlaw20.DenoteBounds", spec := "denoteBounds", unfollowed := true, recurses := true, apart := false }
def DenoteBoundsSaid : Prop := denoteBoundsRow.holds Tryz.pinned (OpenSpec.ofChange denoteBoundsSpec)

/-- ITS FALSE NEIGHBOUR: 'it returns false'. Refute it at one input. -/
def denoteBoundsWrong : ChangeSpec := { name := "denoteBounds", fn := fun _ => fun
  | [d1, d2] => { results := [.lit (.bool false)], args := [d1, d2] }
  | _ => none }
def DenoteBoundsWrongFalsely : Prop := denoteBoundsRow.holds Tryz.pinned (OpenSpec.ofChange denoteBoundsWrong)

/-- 'keysmithlaw20.DenoteKmul': WHATEVER THE INPUT: true; the input reads as it did. -/
def denoteKmulSpec : ChangeSpec := { name := "denoteKmul", fn := fun _ => fun
  | [d1, d2, d3] => { results := [.lit (.bool true)], args := [d1, d2, d3] }
  | _ => none }
def denoteKmulRow : OpenClaim := { program := "ytnbnhnjffiagmaagreat", sum := "7959b64ea935fbe95ffe044e8e06234f03646085bc1dc49c3e3509055a6cc2ac", func := "keysmith/keysmithlaw20.DenoteKmul", spec := "denoteKmul", unfollowed := true, recurses := true, apart := false }
def DenoteKmulSaid : Prop := denoteKmulRow.holds Tryz.pinned (OpenSpec.ofChange denoteKmulSpec)

/-- ITS FALSE NEIGHBOUR: 'it returns false'. Refute it at one input. -/
def denoteKmulWrong : ChangeSpec := { name := "denoteKmul", fn := fun _ => fun
  | [d1, d2, d3] => { results := [.lit (.bool false)], args := [d1, d2, d3] }
  | _ => none }
def DenoteKmulWrongFalsely : Prop := denoteKmulRow.holds Tryz.pinned (OpenSpec.ofChange denoteKmulWrong)

/-- 'keysmithlaw20.DenoteLoops': WHATEVER THE INPUT: true; the input reads as it did. -/
def denoteLoopsSpec : ChangeSpec := { name := "denoteLoops", fn := fun _ => fun
  | [d1, d2] => { results := [.lit (.bool true)], args := [d1, d2] }
  | _ => none }
def denoteLoopsRow : OpenClaim := { program := "ytnbnhnjffiagmaagreat", sum := "7959b64ea935fbe95ffe044e8e06234f03646085bc1dc49c3e3509055a6cc2ac", func := "keysmith/keysmithlaw20.DenoteLoops", spec := "denoteLoops", unfollowed := true, recurses := true, apart := false }
def DenoteLoopsSaid : Prop := denoteLoopsRow.holds Tryz.pinned (OpenSpec.ofChange denoteLoopsSpec)

/-- ITS FALSE NEIGHBOUR: 'it returns false'. Refute it at one input. -/
def denoteLoopsWrong : ChangeSpec := { name := "denoteLoops", fn := fun _ => fun
  | [d1, d2] => { results := [.lit (.bool false)], args := [d1, d2] }
  | _ => none }
def DenoteLoopsWrongFalsely : Prop := denoteLoopsRow.holds Tryz.pinned (OpenSpec.ofChange denoteLoopsWrong)

/-- 'keysmithlaw20.DenoteSwaps': WHATEVER THE INPUT: true; the input reads as it did. -/
def denoteSwapsSpec : ChangeSpec := { name := "denoteSwaps", fn := fun _ => fun
  | [d1, d2, d3, d4, d5] => { results := [.lit (.bool true)], args := [d1, d2, d3, d4, d5] }
  | _ => none }
def denoteSwapsRow : OpenClaim := { program := "ytnbnhnjffiagmaagreat", sum := "7959b64ea935fbe95ffe044e8e06234f03646085bc1dc49c3e3509055a6cc2ac", func := "keysmith/keysmithlaw20.DenoteSwaps", spec := "denoteSwaps", unfollowed := true, recurses := true, apart := false }
def DenoteSwapsSaid : Prop := denoteSwapsRow.holds Tryz.pinned (OpenSpec.ofChange denoteSwapsSpec)

/-- ITS FALSE NEIGHBOUR: 'it returns false'. Refute it at one input. -/
def denoteSwapsWrong : ChangeSpec := { name := "denoteSwaps", fn := fun _ => fun
  | [d1, d2, d3, d4, d5] => { results := [.lit (.bool false)], args := [d1, d2, d3, d4, d5] }
  | _ => none }
def DenoteSwapsWrongFalsely : Prop := denoteSwapsRow.holds Tryz.pinned (OpenSpec.ofChange denoteSwapsWrong)

/- THE SECOND FORM. 'bulk': how many values and letters a reading holds, each counted each time it is reached (what is shared counts as often as it is met; a slice's spare places count too). A statement '..UptoSaid' is the law's where the arguments, and the package variables that the reading takes, are together of bulk at most 1048576: NARROWER than '..Said'. Prove '..Said' where nothing that the law and all that it calls make is longer than what came in: it says more and counts as full. Else prove '..UptoSaid'. A law counts once. -/
mutual
def uptoBulk {H : Type} : DataW H → Nat
  | .lit (.string bytes) => bytes.length + 1
  | .lit _ => 1
  | .nil => 1
  | .ptr d => uptoBulk d + 1
  | .slice elems spare => uptoBulkAll elems + uptoBulkAll spare + 1
  | .agg parts => uptoBulkAll parts + 1
  | .iface _ d => uptoBulk d + 1
  | .map entries => uptoBulkEntries entries + 1
  | .held _ => 1
def uptoBulkAll {H : Type} : List (DataW H) → Nat
  | [] => 0
  | d :: r => uptoBulk d + uptoBulkAll r
def uptoBulkEntries {H : Type} : List (Lit × DataW H) → Nat
  | [] => 0
  | x :: r => uptoBulkEntry x + uptoBulkEntries r
def uptoBulkEntry {H : Type} : Lit × DataW H → Nat
  | (.string bytes, d) => bytes.length + uptoBulk d + 1
  | (_, d) => uptoBulk d + 1
 end
def uptoSmall : (H : Type) → List (DataW H) → Bool := fun _ ds => decide (uptoBulkAll ds ≤ 1048576)
def OpenSpec.upto (s : _root_.Go.ChangeSpec) : _root_.Go.OpenSpec := { _root_.Go.OpenSpec.ofChange s with cond := some uptoSmall }

/-- 'keysmithlaw20.DenoteNames', WHERE WHAT IT READS IS OF BULK AT MOST 1048576: true; the input reads as it did. -/
def denoteNamesUptoRow : OpenClaim := { program := "ytnbnhnjffiagmaagreat", sum := "7959b64ea935fbe95ffe044e8e06234f03646085bc1dc49c3e3509055a6cc2ac", func := "keysmith/keysmithlaw20.DenoteNames", spec := "denoteNames", unfollowed := true, recurses := true, apart := false, narrowed := true }
def DenoteNamesUptoSaid : Prop := denoteNamesUptoRow.holds Tryz.pinned (OpenSpec.upto denoteNamesSpec)

/-- 'keysmithlaw20.DenoteCalls', WHERE WHAT IT READS IS OF BULK AT MOST 1048576: true; the input reads as it did. -/
def denoteCallsUptoRow : OpenClaim := { program := "ytnbnhnjffiagmaagreat", sum := "7959b64ea935fbe95ffe044e8e06234f03646085bc1dc49c3e3509055a6cc2ac", func := "keysmith/keysmithlaw20.DenoteCalls", spec := "denoteCalls", unfollowed := true, recurses := true, apart := false, narrowed := true }
def DenoteCallsUptoSaid : Prop := denoteCallsUptoRow.holds Tryz.pinned (OpenSpec.upto denoteCallsSpec)

/-- 'keysmithlaw20.DenoteBounds', WHERE WHAT IT READS IS OF BULK AT MOST 1048576: true; the input reads as it did. -/
def denoteBoundsUptoRow : OpenClaim := { program := "ytnbnhnjffiagmaagreat", sum := "7959b64ea935fbe95ffe044e8e06234f03646085bc1dc49c3e3509055a6cc2ac", func := "keysmith/keysmithlaw20.DenoteBounds", spec := "denoteBounds", unfollowed := true, recurses := true, apart := false, narrowed := true }
def DenoteBoundsUptoSaid : Prop := denoteBoundsUptoRow.holds Tryz.pinned (OpenSpec.upto denoteBoundsSpec)

/-- 'keysmithlaw20.DenoteKmul', WHERE WHAT IT READS IS OF BULK AT MOST 1048576: true; the input reads as it did. -/
def denoteKmulUptoRow : OpenClaim := { program := "ytnbnhnjffiagmaagreat", sum := "7959b64ea935fbe95ffe044e8e06234f03646085bc1dc49c3e3509055a6cc2ac", func := "keysmith/keysmithlaw20.DenoteKmul", spec := "denoteKmul", unfollowed := true, recurses := true, apart := false, narrowed := true }
def DenoteKmulUptoSaid : Prop := denoteKmulUptoRow.holds Tryz.pinned (OpenSpec.upto denoteKmulSpec)

/-- 'keysmithlaw20.DenoteLoops', WHERE WHAT IT READS IS OF BULK AT MOST 1048576: true; the input reads as it did. -/
def denoteLoopsUptoRow : OpenClaim := { program := "ytnbnhnjffiagmaagreat", sum := "7959b64ea935fbe95ffe044e8e06234f03646085bc1dc49c3e3509055a6cc2ac", func := "keysmith/keysmithlaw20.DenoteLoops", spec := "denoteLoops", unfollowed := true, recurses := true, apart := false, narrowed := true }
def DenoteLoopsUptoSaid : Prop := denoteLoopsUptoRow.holds Tryz.pinned (OpenSpec.upto denoteLoopsSpec)

/-- 'keysmithlaw20.DenoteSwaps', WHERE WHAT IT READS IS OF BULK AT MOST 1048576: true; the input reads as it did. -/
def denoteSwapsUptoRow : OpenClaim := { program := "ytnbnhnjffiagmaagreat", sum := "7959b64ea935fbe95ffe044e8e06234f03646085bc1dc49c3e3509055a6cc2ac", func := "keysmith/keysmithlaw20.DenoteSwaps", spec := "denoteSwaps", unfollowed := true, recurses := true, apart := false, narrowed := true }
def DenoteSwapsUptoSaid : Prop := denoteSwapsUptoRow.holds Tryz.pinned (OpenSpec.upto denoteSwapsSpec)

end Rows
end Go.Proofs.YtnbnhnjffiagmaaGreat
