/-
  No cell of these rows narrows 'for every input' (looked for: loops, veiled, ifaces, maps, wideKeys, modest, calm, conditions, laid).
  DERIVED. THE GIVEN ROWS OF THIS SEAT. 5 by the template 'for every input the law returns true; each argument reads behind the call as it read before'; 0 by the template 'total and deterministic' (their statements: YtbcfbojigokplaaTotals.lean).
  GIVEN WITH THE SEED: the statements are not yours to turn. If you find one false, say at which input.
  Laid BY PROGRAM, IN A SANDBOX (cutbox-rows.mjs): the forced cells as the released guide's own fill.sh prints them over the translation fe4c153ef830819a… (all of the seat's roots in one cut). By AI agents, Wed Nov 11 2026. No macro, syntax, notation, axiom, sorry.
-/
import Derived.Test.YtbcfbojigokplaaChecked
import GoSem.Claim
import GoSem.ClaimJoined
import GoSem.ClaimMapViews
import Derived.JoinedTies
import Derived.KernelRfl
namespace Go.Proofs.Ytbcfbojigokplaa
/- THE CELL 'sum', in the pinned program and in every row, IS THE sha256 OF THE DUMP (.gsa) THAT YtbcfbojigokplaaProg.lean LOADS. Nothing in Lean hashes anything: it is a label: what it is worth is what the hold of that sum in a sandbox is worth. -/
noncomputable def Try.pinned : Pinned := { name := "ytbcfbojigokplaa", sum := "fe4c153ef830819ab541525f11c973fa2cb50d9c00128ab83734156208926653", checked := Try.checked }
namespace Rows
def none {H : Type} : Left H := { results := [], args := [] }

/-- 'keysmithlaw05.InstOne': WHATEVER THE INPUT: true; the input reads as it did. -/
def instOneSpec : ChangeSpec := { name := "instOne", fn := fun _ => fun
  | [d1, d2, d3] => { results := [.lit (.bool true)], args := [d1, d2, d3] }
  | _ => none }
def instOneRow : OpenClaim := { program := "ytbcfbojigokplaa", sum := "fe4c153ef830819ab541525f11c973fa2cb50d9c00128ab83734156208926653", func := "keysmith/keysmithlaw05.InstOne", spec := "instOne", recurses := true, apart := false }
def InstOneSaid : Prop := instOneRow.holds Try.pinned (OpenSpec.ofChange instOneSpec)

/-- ITS FALSE NEIGHBOUR: 'it returns false'. Refute it at one input. -/
def instOneWrong : ChangeSpec := { name := "instOne", fn := fun _ => fun
  | [d1, d2, d3] => { results := [.lit (.bool false)], args := [d1, d2, d3] }
  | _ => none }
def InstOneWrongFalsely : Prop := instOneRow.holds Try.pinned (OpenSpec.ofChange instOneWrong)

/-- 'keysmithlaw05.InstNamed': WHATEVER THE INPUT: true; the input reads as it did. -/
def instNamedSpec : ChangeSpec := { name := "instNamed", fn := fun _ => fun
  | [d1, d2, d3, d4] => { results := [.lit (.bool true)], args := [d1, d2, d3, d4] }
  | _ => none }
def instNamedRow : OpenClaim := { program := "ytbcfbojigokplaa", sum := "fe4c153ef830819ab541525f11c973fa2cb50d9c00128ab83734156208926653", func := "keysmith/keysmithlaw05.InstNamed", spec := "instNamed", recurses := true, apart := false }
def InstNamedSaid : Prop := instNamedRow.holds Try.pinned (OpenSpec.ofChange instNamedSpec)

/-- ITS FALSE NEIGHBOUR: 'it returns false'. Refute it at one input. -/
def instNamedWrong : ChangeSpec := { name := "instNamed", fn := fun _ => fun
  | [d1, d2, d3, d4] => { results := [.lit (.bool false)], args := [d1, d2, d3, d4] }
  | _ => none }
def InstNamedWrongFalsely : Prop := instNamedRow.holds Try.pinned (OpenSpec.ofChange instNamedWrong)

/-- 'keysmithlaw05.InstKinds': WHATEVER THE INPUT: true; the input reads as it did. -/
def instKindsSpec : ChangeSpec := { name := "instKinds", fn := fun _ => fun
  | [d] => { results := [.lit (.bool true)], args := [d] }
  | _ => none }
def instKindsRow : OpenClaim := { program := "ytbcfbojigokplaa", sum := "fe4c153ef830819ab541525f11c973fa2cb50d9c00128ab83734156208926653", func := "keysmith/keysmithlaw05.InstKinds", spec := "instKinds", recurses := true, apart := false }
def InstKindsSaid : Prop := instKindsRow.holds Try.pinned (OpenSpec.ofChange instKindsSpec)

/-- ITS FALSE NEIGHBOUR: 'it returns false'. Refute it at one input. -/
def instKindsWrong : ChangeSpec := { name := "instKinds", fn := fun _ => fun
  | [d] => { results := [.lit (.bool false)], args := [d] }
  | _ => none }
def InstKindsWrongFalsely : Prop := instKindsRow.holds Try.pinned (OpenSpec.ofChange instKindsWrong)

/-- 'keysmithlaw05.InstNames': WHATEVER THE INPUT: true; the input reads as it did. -/
def instNamesSpec : ChangeSpec := { name := "instNames", fn := fun _ => fun
  | [] => { results := [.lit (.bool true)], args := [] }
  | _ => none }
def instNamesRow : OpenClaim := { program := "ytbcfbojigokplaa", sum := "fe4c153ef830819ab541525f11c973fa2cb50d9c00128ab83734156208926653", func := "keysmith/keysmithlaw05.InstNames", spec := "instNames", recurses := true, apart := false }
def InstNamesSaid : Prop := instNamesRow.holds Try.pinned (OpenSpec.ofChange instNamesSpec)

/-- ITS FALSE NEIGHBOUR: 'it returns false'. Refute it at one input. -/
def instNamesWrong : ChangeSpec := { name := "instNames", fn := fun _ => fun
  | [] => { results := [.lit (.bool false)], args := [] }
  | _ => none }
def InstNamesWrongFalsely : Prop := instNamesRow.holds Try.pinned (OpenSpec.ofChange instNamesWrong)

/-- 'keysmithlaw05.InstCalls': WHATEVER THE INPUT: true; the input reads as it did. -/
def instCallsSpec : ChangeSpec := { name := "instCalls", fn := fun _ => fun
  | [d1, d2, d3] => { results := [.lit (.bool true)], args := [d1, d2, d3] }
  | _ => none }
def instCallsRow : OpenClaim := { program := "ytbcfbojigokplaa", sum := "fe4c153ef830819ab541525f11c973fa2cb50d9c00128ab83734156208926653", func := "keysmith/keysmithlaw05.InstCalls", spec := "instCalls", recurses := true, apart := false }
def InstCallsSaid : Prop := instCallsRow.holds Try.pinned (OpenSpec.ofChange instCallsSpec)

/-- ITS FALSE NEIGHBOUR: 'it returns false'. Refute it at one input. -/
def instCallsWrong : ChangeSpec := { name := "instCalls", fn := fun _ => fun
  | [d1, d2, d3] => { results := [.lit (.bool false)], args := [d1, d2, d3] }
  | _ => none }
def InstCallsWrongFalsely : Prop := instCallsRow.holds Try.pinned (OpenSpec.ofChange instCallsWrong)

/- THE SECOND FORM. 'bulk': how many values and letters a reading holds, each counted each time it is reached (what is shared counts as often as it is met; a slice's spare places count too). A statement '..UptoSaid' is the law's where the arguments, and the package variables that the reading takes, are together of bulk at most 1048576: NARROWER than '..Said'. Prove '..Said' where nothing that the law and all that it calls make is longer than what came in: it says more and counts as full. Else prove '..UptoSaid'. A law counts once. -/
mutual
def uptoBulk {H : Type} : DataW H → Nat
  | .lit (.string bytes) => bytes.length + 1
  | .lit _ => 1
  | .nil => 1
  | .ptr d => uptoBulk d + 1
  | .slice elems spare => uptoBulkAll elems + uptoBulkAll spare + 1
  | .agg parts => uptoBulkAll parts + 1
  | .iface _ d => uptoBulk d + 1
  | .map entries => uptoBulkEntries entries + 1
  | .held _ => 1
def uptoBulkAll {H : Type} : List (DataW H) → Nat
  | [] => 0
  | d :: r => uptoBulk d + uptoBulkAll r
def uptoBulkEntries {H : Type} : List (Lit × DataW H) → Nat
  | [] => 0
  | x :: r => uptoBulkEntry x + uptoBulkEntries r
def uptoBulkEntry {H : Type} : Lit × DataW H → Nat
  | (.string bytes, d) => bytes.length + uptoBulk d + 1
  | (_, d) => uptoBulk d + 1
 end
def uptoSmall : (H : Type) → List (DataW H) → Bool := fun _ ds => decide (uptoBulkAll ds ≤ 1048576)
def OpenSpec.upto (s : _root_.Go.ChangeSpec) : _root_.Go.OpenSpec := { _root_.Go.OpenSpec.ofChange s with cond := some uptoSmall }

/-- 'keysmithlaw05.InstOne', WHERE WHAT IT READS IS OF BULK AT MOST 1048576: true; the input reads as it did. -/
def instOneUptoRow : OpenClaim := { program := "ytbcfbojigokplaa", sum := "fe4c153ef830819ab541525f11c973fa2cb50d9c00128ab83734156208926653", func := "keysmith/keysmithlaw05.InstOne", spec := "instOne", recurses := true, apart := false, narrowed := true }
def InstOneUptoSaid : Prop := instOneUptoRow.holds Try.pinned (OpenSpec.upto instOneSpec)

/-- 'keysmithlaw05.InstNamed', WHERE WHAT IT READS IS OF BULK AT MOST 1048576: true; the input reads as it did. -/
def instNamedUptoRow : OpenClaim := { program := "ytbcfbojigokplaa", sum := "fe4c153ef830819ab541525f11c973fa2cb50d9c00128ab83734156208926653", func := "keysmith/keysmithlaw05.InstNamed", spec := "instNamed", recurses := true, apart := false, narrowed := true }
def InstNamedUptoSaid : Prop := instNamedUptoRow.holds Try.pinned (OpenSpec.upto instNamedSpec)

/-- 'keysmithlaw05.InstKinds', WHERE WHAT IT READS IS OF BULK AT MOST 1048576: true; the input reads as it did. -/
def instKindsUptoRow : OpenClaim := { program := "ytbcfbojigokplaa", sum := "fe4c153ef830819ab541525f11c973fa2cb50d9c00128ab83734156208926653", func := "keysmith/keysmithlaw05.InstKinds", spec := "instKinds", recurses := true, apart := false, narrowed := true }
def InstKindsUptoSaid : Prop := instKindsUptoRow.holds Try.pinned (OpenSpec.upto instKindsSpec)

/-- 'keysmithlaw05.InstNames', WHERE WHAT IT READS IS OF BULK AT MOST 1048576: true; the input reads as it did. -/
def instNamesUptoRow : OpenClaim := { program := "ytbcfbojigokplaa", sum := "fe4c153ef830819ab541525f11c973fa2cb50d9c00128ab83734156208926653", func := "keysmith/keysmithlaw05.InstNames", spec := "instNames", recurses := true, apart := false, narrowed := true }
def InstNamesUptoSaid : Prop := instNamesUptoRow.holds Try.pinned (OpenSpec.upto instNamesSpec)

/-- 'keysmithlaw05.InstCalls', WHERE WHAT IT READS IS OF BULK AT MOST 1048576: true; the input reads as it did. -/
def instCallsUptoRow : OpenClaim := { program := "ytbcfbojigokplaa", sum := "fe4c153ef830819ab541525f11c973fa2cb50d9c00128ab83734156208926653", func := "keysmith/keysmithlaw05.InstCalls", spec := "instCalls", recurses := true, apart := false, narrowed := true }
def InstCallsUptoSaid : Prop := instCallsUptoRow.holds Try.pinned (OpenSpec.upto instCallsSpec)

end Rows
end Go.Proofs.Ytbcfbojigokplaa
