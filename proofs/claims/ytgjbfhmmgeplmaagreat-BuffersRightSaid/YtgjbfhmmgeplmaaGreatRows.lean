/-
  No cell of these rows narrows 'for every input' (looked for: loops, veiled, ifaces, maps, wideKeys, modest, calm, conditions, laid).
  DERIVED. THE GIVEN ROWS OF THIS SEAT. 3 by the template 'for every input the law returns true; each argument reads behind the call as it read before'; 0 by the template 'total and deterministic' (their statements: YtgjbfhmmgeplmaaGreatTotals.lean).
  GIVEN WITH THE SEED: the statements are not yours to turn. If you find one false, say at which input.
  Laid BY PROGRAM, IN A SANDBOX (cutbox-rows.mjs): the forced cells as the released guide's own fill.sh prints them over the translation 5dd45a289abb5360… (all of the seat's roots in one cut). By AI agents, Wed Nov 11 2026. No macro, syntax, notation, axiom, sorry.
-/
import Derived.Test.YtgjbfhmmgeplmaaGreatChecked
import GoSem.Claim
import GoSem.ClaimJoined
import GoSem.ClaimMapViews
import Derived.JoinedTies
import Derived.KernelRfl
namespace Go.Proofs.YtgjbfhmmgeplmaaGreat
/- THE CELL 'sum', in the pinned program and in every row, IS THE sha256 OF THE DUMP (.gsa) THAT YtgjbfhmmgeplmaaGreatProg.lean LOADS. Nothing in Lean hashes anything: it is a label: what it is worth is what the hold of that sum in a sandbox is worth. -/
noncomputable def Tryz.pinned : Pinned := { name := "ytgjbfhmmgeplmaagreat", sum := "5dd45a289abb536017ce6392b7dae05bdb888c17864546ad7f315ec539002b85", checked := Tryz.checked }
namespace Rows
def none {H : Type} : Left H := { results := [], args := [] }

/-- 'keysmithlaw25.BuffersRight': WHATEVER THE INPUT: true; the input reads as it did. -/
def buffersRightSpec : ChangeSpec := { name := "buffersRight", fn := fun _ => fun
  | [d] => { results := [.lit (.bool true)], args := [d] }
  | _ => none }
def buffersRightRow : OpenClaim := { program := "ytgjbfhmmgeplmaagreat", sum := "5dd45a289abb536017ce6392b7dae05bdb888c17864546ad7f315ec539002b85", func := "keysmith/keysmithlaw25.BuffersRight", spec := "buffersRight", inPlace := ["slices.overlaps[keysmith/buffers.pair[int]]"], unfollowed := true, recurses := true, apart := false }
def BuffersRightSaid : Prop := buffersRightRow.holds Tryz.pinned (OpenSpec.ofChange buffersRightSpec)

/-- ITS FALSE NEIGHBOUR: 'it returns false'. Refute it at one input. -/
def buffersRightWrong : ChangeSpec := { name := "buffersRight", fn := fun _ => fun
  | [d] => { results := [.lit (.bool false)], args := [d] }
  | _ => none }
def BuffersRightWrongFalsely : Prop := buffersRightRow.holds Tryz.pinned (OpenSpec.ofChange buffersRightWrong)

/-- 'keysmithlaw27.MarshalRows': WHATEVER THE INPUT: true; the input reads as it did. -/
def marshalRowsSpec : ChangeSpec := { name := "marshalRows", fn := fun _ => fun
  | [d1, d2, d3, d4] => { results := [.lit (.bool true)], args := [d1, d2, d3, d4] }
  | _ => none }
def marshalRowsRow : OpenClaim := { program := "ytgjbfhmmgeplmaagreat", sum := "5dd45a289abb536017ce6392b7dae05bdb888c17864546ad7f315ec539002b85", func := "keysmith/keysmithlaw27.MarshalRows", spec := "marshalRows", inPlace := ["slices.overlaps[keysmith/buffers.pair[int]]"], unfollowed := true, recurses := true, apart := false }
def MarshalRowsSaid : Prop := marshalRowsRow.holds Tryz.pinned (OpenSpec.ofChange marshalRowsSpec)

/-- ITS FALSE NEIGHBOUR: 'it returns false'. Refute it at one input. -/
def marshalRowsWrong : ChangeSpec := { name := "marshalRows", fn := fun _ => fun
  | [d1, d2, d3, d4] => { results := [.lit (.bool false)], args := [d1, d2, d3, d4] }
  | _ => none }
def MarshalRowsWrongFalsely : Prop := marshalRowsRow.holds Tryz.pinned (OpenSpec.ofChange marshalRowsWrong)

/-- 'keysmithlaw27.MarshalCalls': WHATEVER THE INPUT: true; the input reads as it did. -/
def marshalCallsSpec : ChangeSpec := { name := "marshalCalls", fn := fun _ => fun
  | [d1, d2, d3, d4, d5, d6, d7] => { results := [.lit (.bool true)], args := [d1, d2, d3, d4, d5, d6, d7] }
  | _ => none }
def marshalCallsRow : OpenClaim := { program := "ytgjbfhmmgeplmaagreat", sum := "5dd45a289abb536017ce6392b7dae05bdb888c17864546ad7f315ec539002b85", func := "keysmith/keysmithlaw27.MarshalCalls", spec := "marshalCalls", inPlace := ["slices.overlaps[keysmith/buffers.pair[int]]"], unfollowed := true, recurses := true, apart := false }
def MarshalCallsSaid : Prop := marshalCallsRow.holds Tryz.pinned (OpenSpec.ofChange marshalCallsSpec)

/-- ITS FALSE NEIGHBOUR: 'it returns false'. Refute it at one input. -/
def marshalCallsWrong : ChangeSpec := { name := "marshalCalls", fn := fun _ => fun
  | [d1, d2, d3, d4, d5, d6, d7] => { results := [.lit (.bool false)], args := [d1, d2, d3, d4, d5, d6, d7] }
  | _ => none }
def MarshalCallsWrongFalsely : Prop := marshalCallsRow.holds Tryz.pinned (OpenSpec.ofChange marshalCallsWrong)

/- THE SECOND FORM. 'bulk': how many values and letters a reading holds, each counted each time it is reached (what is shared counts as often as it is met; a slice's spare places count too). A statement '..UptoSaid' is the law's where the arguments, and the package variables that the reading takes, are together of bulk at most 1048576: NARROWER than '..Said'. Prove '..Said' where nothing that the law and all that it calls make is longer than what came in: it says more and counts as full. Else prove '..UptoSaid'. A law counts once. -/
mutual
def uptoBulk {H : Type} : DataW H → Nat
  | .lit (.string bytes) => bytes.length + 1
  | .lit _ => 1
  | .nil => 1
  | .ptr d => uptoBulk d + 1
  | .slice elems spare => uptoBulkAll elems + uptoBulkAll spare + 1
  | .agg parts => uptoBulkAll parts + 1
  | .iface _ d => uptoBulk d + 1
  | .map entries => uptoBulkEntries entries + 1
  | .held _ => 1
def uptoBulkAll {H : Type} : List (DataW H) → Nat
  | [] => 0
  | d :: r => uptoBulk d + uptoBulkAll r
def uptoBulkEntries {H : Type} : List (Lit × DataW H) → Nat
  | [] => 0
  | x :: r => uptoBulkEntry x + uptoBulkEntries r
def uptoBulkEntry {H : Type} : Lit × DataW H → Nat
  | (.string bytes, d) => bytes.length + uptoBulk d + 1
  | (_, d) => uptoBulk d + 1
 end
def uptoSmall : (H : Type) → List (DataW H) → Bool := fun _ ds => decide (uptoBulkAll ds ≤ 1048576)
def OpenSpec.upto (s : _root_.Go.ChangeSpec) : _root_.Go.OpenSpec := { _root_.Go.OpenSpec.ofChange s with cond := some uptoSmall }

/-- 'keysmithlaw25.BuffersRight', WHERE WHAT IT READS IS OF BULK AT MOST 1048576: true; the input reads as it did. -/
def buffersRightUptoRow : OpenClaim := { program := "ytgjbfhmmgeplmaagreat", sum := "5dd45a289abb536017ce6392b7dae05bdb888c17864546ad7f315ec539002b85", func := "keysmith/keysmithlaw25.BuffersRight", spec := "buffersRight", inPlace := ["slices.overlaps[keysmith/buffers.pair[int]]"], unfollowed := true, recurses := true, apart := false, narrowed := true }
def BuffersRightUptoSaid : Prop := buffersRightUptoRow.holds Tryz.pinned (OpenSpec.upto buffersRightSpec)

/-- 'keysmithlaw27.MarshalRows', WHERE WHAT IT READS IS OF BULK AT MOST 1048576: true; the input reads as it did. -/
def marshalRowsUptoRow : OpenClaim := { program := "ytgjbfhmmgeplmaagreat", sum := "5dd45a289abb536017ce6392b7dae05bdb888c17864546ad7f315ec539002b85", func := "keysmith/keysmithlaw27.MarshalRows", spec := "marshalRows", inPlace := ["slices.overlaps[keysmith/buffers.pair[int]]"], unfollowed := true, recurses := true, apart := false, narrowed := true }
def MarshalRowsUptoSaid : Prop := marshalRowsUptoRow.holds Tryz.pinned (OpenSpec.upto marshalRowsSpec)

/-- 'keysmithlaw27.MarshalCalls', WHERE WHAT IT READS IS OF BULK AT MOST 1048576: true; the input reads as it did. -/
def marshalCallsUptoRow : OpenClaim := { program := "ytgjbfhmmgeplmaagreat", sum := "5dd45a289abb536017ce6392b7dae05bdb888c17864546ad7f315ec539002b85", func := "keysmith/keysmithlaw27.MarshalCalls", spec := "marshalCalls", inPlace := ["slices.overlaps[keysmith/buffers.pair[int]]"], unfollowed := true, recurses := true, apart := false, narrowed := true }
def MarshalCallsUptoSaid : Prop := marshalCallsUptoRow.holds Tryz.pinned (OpenSpec.upto marshalCallsSpec)

end Rows
end Go.Proofs.YtgjbfhmmgeplmaaGreat
