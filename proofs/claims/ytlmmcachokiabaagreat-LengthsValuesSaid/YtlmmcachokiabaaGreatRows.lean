/-
  NARROWER THAN 'FOR EVERY INPUT', by the rows' own cells (each row's printed sentence says how): LengthsCall: loops · LengthsMay: loops · LengthsWrapped: loops · LengthsCalls: loops.
  DERIVED. THE GIVEN ROWS OF THIS SEAT. 6 by the template 'for every input the law returns true; each argument reads behind the call as it read before'; 0 by the template 'total and deterministic' (their statements: YtlmmcachokiabaaGreatTotals.lean).
  GIVEN WITH THE SEED: the statements are not yours to turn. If you find one false, say at which input.
  Laid BY PROGRAM, IN A SANDBOX (cutbox-rows.mjs): the forced cells as the released guide's own fill.sh prints them over the translation 56193e2e440e91a4… (all of the seat's roots in one cut). By AI agents, Wed Nov 11 2026. No macro, syntax, notation, axiom, sorry.
-/
import Derived.Test.YtlmmcachokiabaaGreatChecked
import GoSem.Claim
import GoSem.ClaimJoined
import GoSem.ClaimMapViews
import Derived.JoinedTies
import Derived.KernelRfl
namespace Go.Proofs.YtlmmcachokiabaaGreat
/- THE CELL 'sum', in the pinned program and in every row, IS THE sha256 OF THE DUMP (.gsa) THAT YtlmmcachokiabaaGreatProg.lean LOADS. Nothing in Lean hashes anything: it is a label: what it is worth is what the hold of that sum in a sandbox is worth. -/
noncomputable def Tryz.pinned : Pinned := { name := "ytlmmcachokiabaagreat", sum := "56193e2e440e91a44d0c3ae704553718b91c4a220db202906b5ef830d7aca4a2", checked := Tryz.checked }
namespace Rows
def none {H : Type} : Left H := { results := [], args := [] }

/-- 'keysmithlaw19.LengthsValues': WHATEVER THE INPUT: true; the input reads as it did. -/
def lengthsValuesSpec : ChangeSpec := { name := "lengthsValues", fn := fun _ => fun
  | [d1, d2, d3, d4, d5, d6] => { results := [.lit (.bool true)], args := [d1, d2, d3, d4, d5, d6] }
  | _ => none }
def lengthsValuesRow : OpenClaim := { program := "ytlmmcachokiabaagreat", sum := "56193e2e440e91a44d0c3ae704553718b91c4a220db202906b5ef830d7aca4a2", func := "keysmith/keysmithlaw19.LengthsValues", spec := "lengthsValues", inPlace := ["maps.clone"], unfollowed := true, recurses := true, apart := false }
def LengthsValuesSaid : Prop := lengthsValuesRow.holds Tryz.pinned (OpenSpec.ofChange lengthsValuesSpec)

/-- ITS FALSE NEIGHBOUR: 'it returns false'. Refute it at one input. -/
def lengthsValuesWrong : ChangeSpec := { name := "lengthsValues", fn := fun _ => fun
  | [d1, d2, d3, d4, d5, d6] => { results := [.lit (.bool false)], args := [d1, d2, d3, d4, d5, d6] }
  | _ => none }
def LengthsValuesWrongFalsely : Prop := lengthsValuesRow.holds Tryz.pinned (OpenSpec.ofChange lengthsValuesWrong)

/-- 'keysmithlaw19.LengthsCall': WHATEVER THE INPUT: true; the input reads as it did. -/
def lengthsCallSpec : ChangeSpec := { name := "lengthsCall", fn := fun _ => fun
  | [d1, d2] => { results := [.lit (.bool true)], args := [d1, d2] }
  | _ => none }
def lengthsCallRow : OpenClaim := { program := "ytlmmcachokiabaagreat", sum := "56193e2e440e91a44d0c3ae704553718b91c4a220db202906b5ef830d7aca4a2", func := "keysmith/keysmithlaw19.LengthsCall", spec := "lengthsCall", inPlace := ["maps.clone"], unfollowed := true, recurses := true, loops := true, apart := false }
def LengthsCallSaid : Prop := lengthsCallRow.holds Tryz.pinned (OpenSpec.ofChange lengthsCallSpec)

/-- ITS FALSE NEIGHBOUR: 'it returns false'. Refute it at one input. -/
def lengthsCallWrong : ChangeSpec := { name := "lengthsCall", fn := fun _ => fun
  | [d1, d2] => { results := [.lit (.bool false)], args := [d1, d2] }
  | _ => none }
def LengthsCallWrongFalsely : Prop := lengthsCallRow.holds Tryz.pinned (OpenSpec.ofChange lengthsCallWrong)

/-- 'keysmithlaw19.LengthsMay': WHATEVER THE INPUT: true; the input reads as it did. -/
def lengthsMaySpec : ChangeSpec := { name := "lengthsMay", fn := fun _ => fun
  | [d1, d2] => { results := [.lit (.bool true)], args := [d1, d2] }
  | _ => none }
def lengthsMayRow : OpenClaim := { program := "ytlmmcachokiabaagreat", sum := "56193e2e440e91a44d0c3ae704553718b91c4a220db202906b5ef830d7aca4a2", func := "keysmith/keysmithlaw19.LengthsMay", spec := "lengthsMay", inPlace := ["maps.clone"], unfollowed := true, recurses := true, loops := true, apart := false }
def LengthsMaySaid : Prop := lengthsMayRow.holds Tryz.pinned (OpenSpec.ofChange lengthsMaySpec)

/-- ITS FALSE NEIGHBOUR: 'it returns false'. Refute it at one input. -/
def lengthsMayWrong : ChangeSpec := { name := "lengthsMay", fn := fun _ => fun
  | [d1, d2] => { results := [.lit (.bool false)], args := [d1, d2] }
  | _ => none }
def LengthsMayWrongFalsely : Prop := lengthsMayRow.holds Tryz.pinned (OpenSpec.ofChange lengthsMayWrong)

/-- 'keysmithlaw19.LengthsWrapped': WHATEVER THE INPUT: true; the input reads as it did. -/
def lengthsWrappedSpec : ChangeSpec := { name := "lengthsWrapped", fn := fun _ => fun
  | [d1, d2] => { results := [.lit (.bool true)], args := [d1, d2] }
  | _ => none }
def lengthsWrappedRow : OpenClaim := { program := "ytlmmcachokiabaagreat", sum := "56193e2e440e91a44d0c3ae704553718b91c4a220db202906b5ef830d7aca4a2", func := "keysmith/keysmithlaw19.LengthsWrapped", spec := "lengthsWrapped", inPlace := ["maps.clone"], unfollowed := true, recurses := true, loops := true, apart := false }
def LengthsWrappedSaid : Prop := lengthsWrappedRow.holds Tryz.pinned (OpenSpec.ofChange lengthsWrappedSpec)

/-- ITS FALSE NEIGHBOUR: 'it returns false'. Refute it at one input. -/
def lengthsWrappedWrong : ChangeSpec := { name := "lengthsWrapped", fn := fun _ => fun
  | [d1, d2] => { results := [.lit (.bool false)], args := [d1, d2] }
  | _ => none }
def LengthsWrappedWrongFalsely : Prop := lengthsWrappedRow.holds Tryz.pinned (OpenSpec.ofChange lengthsWrappedWrong)

/-- 'keysmithlaw19.LengthsNames': WHATEVER THE INPUT: true; the input reads as it did. -/
def lengthsNamesSpec : ChangeSpec := { name := "lengthsNames", fn := fun _ => fun
  | [] => { results := [.lit (.bool true)], args := [] }
  | _ => none }
def lengthsNamesRow : OpenClaim := { program := "ytlmmcachokiabaagreat", sum := "56193e2e440e91a44d0c3ae704553718b91c4a220db202906b5ef830d7aca4a2", func := "keysmith/keysmithlaw19.LengthsNames", spec := "lengthsNames", inPlace := ["maps.clone"], unfollowed := true, recurses := true, apart := false }
def LengthsNamesSaid : Prop := lengthsNamesRow.holds Tryz.pinned (OpenSpec.ofChange lengthsNamesSpec)

/-- ITS FALSE NEIGHBOUR: 'it returns false'. Refute it at one input. -/
def lengthsNamesWrong : ChangeSpec := { name := "lengthsNames", fn := fun _ => fun
  | [] => { results := [.lit (.bool false)], args := [] }
  | _ => none }
def LengthsNamesWrongFalsely : Prop := lengthsNamesRow.holds Tryz.pinned (OpenSpec.ofChange lengthsNamesWrong)

/-- 'keysmithlaw19.LengthsCalls': WHATEVER THE INPUT: true; the input reads as it did. -/
def lengthsCallsSpec : ChangeSpec := { name := "lengthsCalls", fn := fun _ => fun
  | [d1, d2, d3, d4, d5, d6] => { results := [.lit (.bool true)], args := [d1, d2, d3, d4, d5, d6] }
  | _ => none }
def lengthsCallsRow : OpenClaim := { program := "ytlmmcachokiabaagreat", sum := "56193e2e440e91a44d0c3ae704553718b91c4a220db202906b5ef830d7aca4a2", func := "keysmith/keysmithlaw19.LengthsCalls", spec := "lengthsCalls", inPlace := ["maps.clone"], unfollowed := true, recurses := true, loops := true, apart := false }
def LengthsCallsSaid : Prop := lengthsCallsRow.holds Tryz.pinned (OpenSpec.ofChange lengthsCallsSpec)

/-- ITS FALSE NEIGHBOUR: 'it returns false'. Refute it at one input. -/
def lengthsCallsWrong : ChangeSpec := { name := "lengthsCalls", fn := fun _ => fun
  | [d1, d2, d3, d4, d5, d6] => { results := [.lit (.bool false)], args := [d1, d2, d3, d4, d5, d6] }
  | _ => none }
def LengthsCallsWrongFalsely : Prop := lengthsCallsRow.holds Tryz.pinned (OpenSpec.ofChange lengthsCallsWrong)

/- THE SECOND FORM. 'bulk': how many values and letters a reading holds, each counted each time it is reached (what is shared counts as often as it is met; a slice's spare places count too). A statement '..UptoSaid' is the law's where the arguments, and the package variables that the reading takes, are together of bulk at most 1048576: NARROWER than '..Said'. Prove '..Said' where nothing that the law and all that it calls make is longer than what came in: it says more and counts as full. Else prove '..UptoSaid'. A law counts once. -/
mutual
def uptoBulk {H : Type} : DataW H → Nat
  | .lit (.string bytes) => bytes.length + 1
  | .lit _ => 1
  | .nil => 1
  | .ptr d => uptoBulk d + 1
  | .slice elems spare => uptoBulkAll elems + uptoBulkAll spare + 1
  | .agg parts => uptoBulkAll parts + 1
  | .iface _ d => uptoBulk d + 1
  | .map entries => uptoBulkEntries entries + 1
  | .held _ => 1
def uptoBulkAll {H : Type} : List (DataW H) → Nat
  | [] => 0
  | d :: r => uptoBulk d + uptoBulkAll r
def uptoBulkEntries {H : Type} : List (Lit × DataW H) → Nat
  | [] => 0
  | x :: r => uptoBulkEntry x + uptoBulkEntries r
def uptoBulkEntry {H : Type} : Lit × DataW H → Nat
  | (.string bytes, d) => bytes.length + uptoBulk d + 1
  | (_, d) => uptoBulk d + 1
 end
def uptoSmall : (H : Type) → List (DataW H) → Bool := fun _ ds => decide (uptoBulkAll ds ≤ 1048576)
def OpenSpec.upto (s : _root_.Go.ChangeSpec) : _root_.Go.OpenSpec := { _root_.Go.OpenSpec.ofChange s with cond := some uptoSmall }

/-- 'keysmithlaw19.LengthsValues', WHERE WHAT IT READS IS OF BULK AT MOST 1048576: true; the input reads as it did. -/
def lengthsValuesUptoRow : OpenClaim := { program := "ytlmmcachokiabaagreat", sum := "56193e2e440e91a44d0c3ae704553718b91c4a220db202906b5ef830d7aca4a2", func := "keysmith/keysmithlaw19.LengthsValues", spec := "lengthsValues", inPlace := ["maps.clone"], unfollowed := true, recurses := true, apart := false, narrowed := true }
def LengthsValuesUptoSaid : Prop := lengthsValuesUptoRow.holds Tryz.pinned (OpenSpec.upto lengthsValuesSpec)

/-- 'keysmithlaw19.LengthsCall', WHERE WHAT IT READS IS OF BULK AT MOST 1048576: true; the input reads as it did. -/
def lengthsCallUptoRow : OpenClaim := { program := "ytlmmcachokiabaagreat", sum := "56193e2e440e91a44d0c3ae704553718b91c4a220db202906b5ef830d7aca4a2", func := "keysmith/keysmithlaw19.LengthsCall", spec := "lengthsCall", inPlace := ["maps.clone"], unfollowed := true, recurses := true, loops := true, apart := false, narrowed := true }
def LengthsCallUptoSaid : Prop := lengthsCallUptoRow.holds Tryz.pinned (OpenSpec.upto lengthsCallSpec)

/-- 'keysmithlaw19.LengthsMay', WHERE WHAT IT READS IS OF BULK AT MOST 1048576: true; the input reads as it did. -/
def lengthsMayUptoRow : OpenClaim := { program := "ytlmmcachokiabaagreat", sum := "56193e2e440e91a44d0c3ae704553718b91c4a220db202906b5ef830d7aca4a2", func := "keysmith/keysmithlaw19.LengthsMay", spec := "lengthsMay", inPlace := ["maps.clone"], unfollowed := true, recurses := true, loops := true, apart := false, narrowed := true }
def LengthsMayUptoSaid : Prop := lengthsMayUptoRow.holds Tryz.pinned (OpenSpec.upto lengthsMaySpec)

/-- 'keysmithlaw19.LengthsWrapped', WHERE WHAT IT READS IS OF BULK AT MOST 1048576: true; the input reads as it did. -/
def lengthsWrappedUptoRow : OpenClaim := { program := "ytlmmcachokiabaagreat", sum := "56193e2e440e91a44d0c3ae704553718b91c4a220db202906b5ef830d7aca4a2", func := "keysmith/keysmithlaw19.LengthsWrapped", spec := "lengthsWrapped", inPlace := ["maps.clone"], unfollowed := true, recurses := true, loops := true, apart := false, narrowed := true }
def LengthsWrappedUptoSaid : Prop := lengthsWrappedUptoRow.holds Tryz.pinned (OpenSpec.upto lengthsWrappedSpec)

/-- 'keysmithlaw19.LengthsNames', WHERE WHAT IT READS IS OF BULK AT MOST 1048576: true; the input reads as it did. -/
def lengthsNamesUptoRow : OpenClaim := { program := "ytlmmcachokiabaagreat", sum := "56193e2e440e91a44d0c3ae704553718b91c4a220db202906b5ef830d7aca4a2", func := "keysmith/keysmithlaw19.LengthsNames", spec := "lengthsNames", inPlace := ["maps.clone"], unfollowed := true, recurses := true, apart := false, narrowed := true }
def LengthsNamesUptoSaid : Prop := lengthsNamesUptoRow.holds Tryz.pinned (OpenSpec.upto lengthsNamesSpec)

/-- 'keysmithlaw19.LengthsCalls', WHERE WHAT IT READS IS OF BULK AT MOST 1048576: true; the input reads as it did. -/
def lengthsCallsUptoRow : OpenClaim := { program := "ytlmmcachokiabaagreat", sum := "56193e2e440e91a44d0c3ae704553718b91c4a220db202906b5ef830d7aca4a2", func := "keysmith/keysmithlaw19.LengthsCalls", spec := "lengthsCalls", inPlace := ["maps.clone"], unfollowed := true, recurses := true, loops := true, apart := false, narrowed := true }
def LengthsCallsUptoSaid : Prop := lengthsCallsUptoRow.holds Tryz.pinned (OpenSpec.upto lengthsCallsSpec)

end Rows
end Go.Proofs.YtlmmcachokiabaaGreat
