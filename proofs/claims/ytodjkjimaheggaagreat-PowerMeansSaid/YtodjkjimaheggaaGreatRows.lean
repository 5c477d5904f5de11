/-
  No cell of these rows narrows 'for every input' (looked for: loops, veiled, ifaces, maps, wideKeys, modest, calm, conditions, laid).
  DERIVED. THE GIVEN ROWS OF THIS SEAT. 10 by the template 'for every input the law returns true; each argument reads behind the call as it read before'; 0 by the template 'total and deterministic' (their statements: YtodjkjimaheggaaGreatTotals.lean).
  GIVEN WITH THE SEED: the statements are not yours to turn. If you find one false, say at which input.
  Laid BY PROGRAM, IN A SANDBOX (cutbox-rows.mjs): the forced cells as the released guide's own fill.sh prints them over the translation ea7dbd5d2594afcb… (all of the seat's roots in one cut). By AI agents, Wed Nov 11 2026. No macro, syntax, notation, axiom, sorry.
-/
import Derived.Test.YtodjkjimaheggaaGreatChecked
import GoSem.Claim
import GoSem.ClaimJoined
import GoSem.ClaimMapViews
import Derived.JoinedTies
import Derived.KernelRfl
namespace Go.Proofs.YtodjkjimaheggaaGreat
/- THE CELL 'sum', in the pinned program and in every row, IS THE sha256 OF THE DUMP (.gsa) THAT YtodjkjimaheggaaGreatProg.lean LOADS. Nothing in Lean hashes anything: it is a label: what it is worth is what the hold of that sum in a sandbox is worth. -/
noncomputable def Tryz.pinned : Pinned := { name := "ytodjkjimaheggaagreat", sum := "ea7dbd5d2594afcb83c984d47a475169d56aae6b4f83b51d9a90ad7bb623a8bd", checked := Tryz.checked }
namespace Rows
def none {H : Type} : Left H := { results := [], args := [] }

/-- 'keysmithlaw23.MontgomeryMeans': WHATEVER THE INPUT: true; the input reads as it did. -/
def montgomeryMeansSpec : ChangeSpec := { name := "montgomeryMeans", fn := fun _ => fun
  | [d1, d2, d3, d4] => { results := [.lit (.bool true)], args := [d1, d2, d3, d4] }
  | _ => none }
def montgomeryMeansRow : OpenClaim := { program := "ytodjkjimaheggaagreat", sum := "ea7dbd5d2594afcb83c984d47a475169d56aae6b4f83b51d9a90ad7bb623a8bd", func := "keysmith/keysmithlaw23.MontgomeryMeans", spec := "montgomeryMeans", unfollowed := true, recurses := true, apart := false }
def MontgomeryMeansSaid : Prop := montgomeryMeansRow.holds Tryz.pinned (OpenSpec.ofChange montgomeryMeansSpec)

/-- ITS FALSE NEIGHBOUR: 'it returns false'. Refute it at one input. -/
def montgomeryMeansWrong : ChangeSpec := { name := "montgomeryMeans", fn := fun _ => fun
  | [d1, d2, d3, d4] => { results := [.lit (.bool false)], args := [d1, d2, d3, d4] }
  | _ => none }
def MontgomeryMeansWrongFalsely : Prop := montgomeryMeansRow.holds Tryz.pinned (OpenSpec.ofChange montgomeryMeansWrong)

/-- 'keysmithlaw23.MontgomeryInto': WHATEVER THE INPUT: true; the input reads as it did. -/
def montgomeryIntoSpec : ChangeSpec := { name := "montgomeryInto", fn := fun _ => fun
  | [d1, d2, d3, d4, d5, d6, d7, d8] => { results := [.lit (.bool true)], args := [d1, d2, d3, d4, d5, d6, d7, d8] }
  | _ => none }
def montgomeryIntoRow : OpenClaim := { program := "ytodjkjimaheggaagreat", sum := "ea7dbd5d2594afcb83c984d47a475169d56aae6b4f83b51d9a90ad7bb623a8bd", func := "keysmith/keysmithlaw23.MontgomeryInto", spec := "montgomeryInto", unfollowed := true, recurses := true, apart := false }
def MontgomeryIntoSaid : Prop := montgomeryIntoRow.holds Tryz.pinned (OpenSpec.ofChange montgomeryIntoSpec)

/-- ITS FALSE NEIGHBOUR: 'it returns false'. Refute it at one input. -/
def montgomeryIntoWrong : ChangeSpec := { name := "montgomeryInto", fn := fun _ => fun
  | [d1, d2, d3, d4, d5, d6, d7, d8] => { results := [.lit (.bool false)], args := [d1, d2, d3, d4, d5, d6, d7, d8] }
  | _ => none }
def MontgomeryIntoWrongFalsely : Prop := montgomeryIntoRow.holds Tryz.pinned (OpenSpec.ofChange montgomeryIntoWrong)

/-- 'keysmithlaw23.MontgomeryBack': WHATEVER THE INPUT: true; the input reads as it did. -/
def montgomeryBackSpec : ChangeSpec := { name := "montgomeryBack", fn := fun _ => fun
  | [d1, d2, d3, d4] => { results := [.lit (.bool true)], args := [d1, d2, d3, d4] }
  | _ => none }
def montgomeryBackRow : OpenClaim := { program := "ytodjkjimaheggaagreat", sum := "ea7dbd5d2594afcb83c984d47a475169d56aae6b4f83b51d9a90ad7bb623a8bd", func := "keysmith/keysmithlaw23.MontgomeryBack", spec := "montgomeryBack", unfollowed := true, recurses := true, apart := false }
def MontgomeryBackSaid : Prop := montgomeryBackRow.holds Tryz.pinned (OpenSpec.ofChange montgomeryBackSpec)

/-- ITS FALSE NEIGHBOUR: 'it returns false'. Refute it at one input. -/
def montgomeryBackWrong : ChangeSpec := { name := "montgomeryBack", fn := fun _ => fun
  | [d1, d2, d3, d4] => { results := [.lit (.bool false)], args := [d1, d2, d3, d4] }
  | _ => none }
def MontgomeryBackWrongFalsely : Prop := montgomeryBackRow.holds Tryz.pinned (OpenSpec.ofChange montgomeryBackWrong)

/-- 'keysmithlaw23.MontgomeryNames': WHATEVER THE INPUT: true; the input reads as it did. -/
def montgomeryNamesSpec : ChangeSpec := { name := "montgomeryNames", fn := fun _ => fun
  | [] => { results := [.lit (.bool true)], args := [] }
  | _ => none }
def montgomeryNamesRow : OpenClaim := { program := "ytodjkjimaheggaagreat", sum := "ea7dbd5d2594afcb83c984d47a475169d56aae6b4f83b51d9a90ad7bb623a8bd", func := "keysmith/keysmithlaw23.MontgomeryNames", spec := "montgomeryNames", unfollowed := true, recurses := true, apart := false }
def MontgomeryNamesSaid : Prop := montgomeryNamesRow.holds Tryz.pinned (OpenSpec.ofChange montgomeryNamesSpec)

/-- ITS FALSE NEIGHBOUR: 'it returns false'. Refute it at one input. -/
def montgomeryNamesWrong : ChangeSpec := { name := "montgomeryNames", fn := fun _ => fun
  | [] => { results := [.lit (.bool false)], args := [] }
  | _ => none }
def MontgomeryNamesWrongFalsely : Prop := montgomeryNamesRow.holds Tryz.pinned (OpenSpec.ofChange montgomeryNamesWrong)

/-- 'keysmithlaw23.MontgomeryConst': WHATEVER THE INPUT: true; the input reads as it did. -/
def montgomeryConstSpec : ChangeSpec := { name := "montgomeryConst", fn := fun _ => fun
  | [d1, d2, d3] => { results := [.lit (.bool true)], args := [d1, d2, d3] }
  | _ => none }
def montgomeryConstRow : OpenClaim := { program := "ytodjkjimaheggaagreat", sum := "ea7dbd5d2594afcb83c984d47a475169d56aae6b4f83b51d9a90ad7bb623a8bd", func := "keysmith/keysmithlaw23.MontgomeryConst", spec := "montgomeryConst", unfollowed := true, recurses := true, apart := false }
def MontgomeryConstSaid : Prop := montgomeryConstRow.holds Tryz.pinned (OpenSpec.ofChange montgomeryConstSpec)

/-- ITS FALSE NEIGHBOUR: 'it returns false'. Refute it at one input. -/
def montgomeryConstWrong : ChangeSpec := { name := "montgomeryConst", fn := fun _ => fun
  | [d1, d2, d3] => { results := [.lit (.bool false)], args := [d1, d2, d3] }
  | _ => none }
def MontgomeryConstWrongFalsely : Prop := montgomeryConstRow.holds Tryz.pinned (OpenSpec.ofChange montgomeryConstWrong)

/-- 'keysmithlaw24.PowerNames': WHATEVER THE INPUT: true; the input reads as it did. -/
def powerNamesSpec : ChangeSpec := { name := "powerNames", fn := fun _ => fun
  | [] => { results := [.lit (.bool true)], args := [] }
  | _ => none }
def powerNamesRow : OpenClaim := { program := "ytodjkjimaheggaagreat", sum := "ea7dbd5d2594afcb83c984d47a475169d56aae6b4f83b51d9a90ad7bb623a8bd", func := "keysmith/keysmithlaw24.PowerNames", spec := "powerNames", unfollowed := true, recurses := true, apart := false }
def PowerNamesSaid : Prop := powerNamesRow.holds Tryz.pinned (OpenSpec.ofChange powerNamesSpec)

/-- ITS FALSE NEIGHBOUR: 'it returns false'. Refute it at one input. -/
def powerNamesWrong : ChangeSpec := { name := "powerNames", fn := fun _ => fun
  | [] => { results := [.lit (.bool false)], args := [] }
  | _ => none }
def PowerNamesWrongFalsely : Prop := powerNamesRow.holds Tryz.pinned (OpenSpec.ofChange powerNamesWrong)

/-- 'keysmithlaw24.PowerMeans': WHATEVER THE INPUT: true; the input reads as it did. -/
def powerMeansSpec : ChangeSpec := { name := "powerMeans", fn := fun _ => fun
  | [d1, d2, d3, d4] => { results := [.lit (.bool true)], args := [d1, d2, d3, d4] }
  | _ => none }
def powerMeansRow : OpenClaim := { program := "ytodjkjimaheggaagreat", sum := "ea7dbd5d2594afcb83c984d47a475169d56aae6b4f83b51d9a90ad7bb623a8bd", func := "keysmith/keysmithlaw24.PowerMeans", spec := "powerMeans", unfollowed := true, recurses := true, apart := false }
def PowerMeansSaid : Prop := powerMeansRow.holds Tryz.pinned (OpenSpec.ofChange powerMeansSpec)

/-- ITS FALSE NEIGHBOUR: 'it returns false'. Refute it at one input. -/
def powerMeansWrong : ChangeSpec := { name := "powerMeans", fn := fun _ => fun
  | [d1, d2, d3, d4] => { results := [.lit (.bool false)], args := [d1, d2, d3, d4] }
  | _ => none }
def PowerMeansWrongFalsely : Prop := powerMeansRow.holds Tryz.pinned (OpenSpec.ofChange powerMeansWrong)

/-- 'keysmithlaw24.PowerWindows': WHATEVER THE INPUT: true; the input reads as it did. -/
def powerWindowsSpec : ChangeSpec := { name := "powerWindows", fn := fun _ => fun
  | [d1, d2] => { results := [.lit (.bool true)], args := [d1, d2] }
  | _ => none }
def powerWindowsRow : OpenClaim := { program := "ytodjkjimaheggaagreat", sum := "ea7dbd5d2594afcb83c984d47a475169d56aae6b4f83b51d9a90ad7bb623a8bd", func := "keysmith/keysmithlaw24.PowerWindows", spec := "powerWindows", unfollowed := true, recurses := true, apart := false }
def PowerWindowsSaid : Prop := powerWindowsRow.holds Tryz.pinned (OpenSpec.ofChange powerWindowsSpec)

/-- ITS FALSE NEIGHBOUR: 'it returns false'. Refute it at one input. -/
def powerWindowsWrong : ChangeSpec := { name := "powerWindows", fn := fun _ => fun
  | [d1, d2] => { results := [.lit (.bool false)], args := [d1, d2] }
  | _ => none }
def PowerWindowsWrongFalsely : Prop := powerWindowsRow.holds Tryz.pinned (OpenSpec.ofChange powerWindowsWrong)

/-- 'keysmithlaw24.PowerRadix': WHATEVER THE INPUT: true; the input reads as it did. -/
def powerRadixSpec : ChangeSpec := { name := "powerRadix", fn := fun _ => fun
  | [d1, d2, d3, d4, d5] => { results := [.lit (.bool true)], args := [d1, d2, d3, d4, d5] }
  | _ => none }
def powerRadixRow : OpenClaim := { program := "ytodjkjimaheggaagreat", sum := "ea7dbd5d2594afcb83c984d47a475169d56aae6b4f83b51d9a90ad7bb623a8bd", func := "keysmith/keysmithlaw24.PowerRadix", spec := "powerRadix", unfollowed := true, recurses := true, apart := false }
def PowerRadixSaid : Prop := powerRadixRow.holds Tryz.pinned (OpenSpec.ofChange powerRadixSpec)

/-- ITS FALSE NEIGHBOUR: 'it returns false'. Refute it at one input. -/
def powerRadixWrong : ChangeSpec := { name := "powerRadix", fn := fun _ => fun
  | [d1, d2, d3, d4, d5] => { results := [.lit (.bool false)], args := [d1, d2, d3, d4, d5] }
  | _ => none }
def PowerRadixWrongFalsely : Prop := powerRadixRow.holds Tryz.pinned (OpenSpec.ofChange powerRadixWrong)

/-- 'keysmithlaw24.PowerSame': WHATEVER THE INPUT: true; the input reads as it did. -/
def powerSameSpec : ChangeSpec := { name := "powerSame", fn := fun _ => fun
  | [d1, d2, d3, d4, d5, d6] => { results := [.lit (.bool true)], args := [d1, d2, d3, d4, d5, d6] }
  | _ => none }
def powerSameRow : OpenClaim := { program := "ytodjkjimaheggaagreat", sum := "ea7dbd5d2594afcb83c984d47a475169d56aae6b4f83b51d9a90ad7bb623a8bd", func := "keysmith/keysmithlaw24.PowerSame", spec := "powerSame", unfollowed := true, recurses := true, apart := false }
def PowerSameSaid : Prop := powerSameRow.holds Tryz.pinned (OpenSpec.ofChange powerSameSpec)

/-- ITS FALSE NEIGHBOUR: 'it returns false'. Refute it at one input. -/
def powerSameWrong : ChangeSpec := { name := "powerSame", fn := fun _ => fun
  | [d1, d2, d3, d4, d5, d6] => { results := [.lit (.bool false)], args := [d1, d2, d3, d4, d5, d6] }
  | _ => none }
def PowerSameWrongFalsely : Prop := powerSameRow.holds Tryz.pinned (OpenSpec.ofChange powerSameWrong)

/- THE SECOND FORM. 'bulk': how many values and letters a reading holds, each counted each time it is reached (what is shared counts as often as it is met; a slice's spare places count too). A statement '..UptoSaid' is the law's where the arguments, and the package variables that the reading takes, are together of bulk at most 1048576: NARROWER than '..Said'. Prove '..Said' where nothing that the law and all that it calls make is longer than what came in: it says more and counts as full. Else prove '..UptoSaid'. A law counts once. -/
mutual
def uptoBulk {H : Type} : DataW H → Nat
  | .lit (.string bytes) => bytes.length + 1
  | .lit _ => 1
  | .nil => 1
  | .ptr d => uptoBulk d + 1
  | .slice elems spare => uptoBulkAll elems + uptoBulkAll spare + 1
  | .agg parts => uptoBulkAll parts + 1
  | .iface _ d => uptoBulk d + 1
  | .map entries => uptoBulkEntries entries + 1
  | .held _ => 1
def uptoBulkAll {H : Type} : List (DataW H) → Nat
  | [] => 0
  | d :: r => uptoBulk d + uptoBulkAll r
def uptoBulkEntries {H : Type} : List (Lit × DataW H) → Nat
  | [] => 0
  | x :: r => uptoBulkEntry x + uptoBulkEntries r
def uptoBulkEntry {H : Type} : Lit × DataW H → Nat
  | (.string bytes, d) => bytes.length + uptoBulk d + 1
  | (_, d) => uptoBulk d + 1
 end
def uptoSmall : (H : Type) → List (DataW H) → Bool := fun _ ds => decide (uptoBulkAll ds ≤ 1048576)
def OpenSpec.upto (s : _root_.Go.ChangeSpec) : _root_.Go.OpenSpec := { _root_.Go.OpenSpec.ofChange s with cond := some uptoSmall }

/-- 'keysmithlaw23.MontgomeryMeans', WHERE WHAT IT READS IS OF BULK AT MOST 1048576: true; the input reads as it did. -/
def montgomeryMeansUptoRow : OpenClaim := { program := "ytodjkjimaheggaagreat", sum := "ea7dbd5d2594afcb83c984d47a475169d56aae6b4f83b51d9a90ad7bb623a8bd", func := "keysmith/keysmithlaw23.MontgomeryMeans", spec := "montgomeryMeans", unfollowed := true, recurses := true, apart := false, narrowed := true }
def MontgomeryMeansUptoSaid : Prop := montgomeryMeansUptoRow.holds Tryz.pinned (OpenSpec.upto montgomeryMeansSpec)

/-- 'keysmithlaw23.MontgomeryInto', WHERE WHAT IT READS IS OF BULK AT MOST 1048576: true; the input reads as it did. -/
def montgomeryIntoUptoRow : OpenClaim := { program := "ytodjkjimaheggaagreat", sum := "ea7dbd5d2594afcb83c984d47a475169d56aae6b4f83b51d9a90ad7bb623a8bd", func := "keysmith/keysmithlaw23.MontgomeryInto", spec := "montgomeryInto", unfollowed := true, recurses := true, apart := false, narrowed := true }
def MontgomeryIntoUptoSaid : Prop := montgomeryIntoUptoRow.holds Tryz.pinned (OpenSpec.upto montgomeryIntoSpec)

/-- 'keysmithlaw23.MontgomeryBack', WHERE WHAT IT READS IS OF BULK AT MOST 1048576: true; the input reads as it did. -/
def montgomeryBackUptoRow : OpenClaim := { program := "ytodjkjimaheggaagreat", sum := "ea7dbd5d2594afcb83c984d47a475169d56aae6b4f83b51d9a90ad7bb623a8bd", func := "keysmith/keysmithlaw23.MontgomeryBack", spec := "montgomeryBack", unfollowed := true, recurses := true, apart := false, narrowed := true }
def MontgomeryBackUptoSaid : Prop := montgomeryBackUptoRow.holds Tryz.pinned (OpenSpec.upto montgomeryBackSpec)

/-- 'keysmithlaw23.MontgomeryNames', WHERE WHAT IT READS IS OF BULK AT MOST 1048576: true; the input reads as it did. -/
def montgomeryNamesUptoRow : OpenClaim := { program := "ytodjkjimaheggaagreat", sum := "ea7dbd5d2594afcb83c984d47a475169d56aae6b4f83b51d9a90ad7bb623a8bd", func := "keysmith/keysmithlaw23.MontgomeryNames", spec := "montgomeryNames", unfollowed := true, recurses := true, apart := false, narrowed := true }
def MontgomeryNamesUptoSaid : Prop := montgomeryNamesUptoRow.holds Tryz.pinned (OpenSpec.upto montgomeryNamesSpec)

/-- 'keysmithlaw23.MontgomeryConst', WHERE WHAT IT READS IS OF BULK AT MOST 1048576: true; the input reads as it did. -/
def montgomeryConstUptoRow : OpenClaim := { program := "ytodjkjimaheggaagreat", sum := "ea7dbd5d2594afcb83c984d47a475169d56aae6b4f83b51d9a90ad7bb623a8bd", func := "keysmith/keysmithlaw23.MontgomeryConst", spec := "montgomeryConst", unfollowed := true, recurses := true, apart := false, narrowed := true }
def MontgomeryConstUptoSaid : Prop := montgomeryConstUptoRow.holds Tryz.pinned (OpenSpec.upto montgomeryConstSpec)

/-- 'keysmithlaw24.PowerNames', WHERE WHAT IT READS IS OF BULK AT MOST 1048576: true; the input reads as it did. -/
def powerNamesUptoRow : OpenClaim := { program := "ytodjkjimaheggaagreat", sum := "ea7dbd5d2594afcb83c984d47a475169d56aae6b4f83b51d9a90ad7bb623a8bd", func := "keysmith/keysmithlaw24.PowerNames", spec := "powerNames", unfollowed := true, recurses := true, apart := false, narrowed := true }
def PowerNamesUptoSaid : Prop := powerNamesUptoRow.holds Tryz.pinned (OpenSpec.upto powerNamesSpec)

/-- 'keysmithlaw24.PowerMeans', WHERE WHAT IT READS IS OF BULK AT MOST 1048576: true; the input reads as it did. -/
def powerMeansUptoRow : OpenClaim := { program := "ytodjkjimaheggaagreat", sum := "ea7dbd5d2594afcb83c984d47a475169d56aae6b4f83b51d9a90ad7bb623a8bd", func := "keysmith/keysmithlaw24.PowerMeans", spec := "powerMeans", unfollowed := true, recurses := true, apart := false, narrowed := true }
def PowerMeansUptoSaid : Prop := powerMeansUptoRow.holds Tryz.pinned (OpenSpec.upto powerMeansSpec)

/-- 'keysmithlaw24.PowerWindows', WHERE WHAT IT READS IS OF BULK AT MOST 1048576: true; the input reads as it did. -/
def powerWindowsUptoRow : OpenClaim := { program := "ytodjkjimaheggaagreat", sum := "ea7dbd5d2594afcb83c984d47a475169d56aae6b4f83b51d9a90ad7bb623a8bd", func := "keysmith/keysmithlaw24.PowerWindows", spec := "powerWindows", unfollowed := true, recurses := true, apart := false, narrowed := true }
def PowerWindowsUptoSaid : Prop := powerWindowsUptoRow.holds Tryz.pinned (OpenSpec.upto powerWindowsSpec)

/-- 'keysmithlaw24.PowerRadix', WHERE WHAT IT READS IS OF BULK AT MOST 1048576: true; the input reads as it did. -/
def powerRadixUptoRow : OpenClaim := { program := "ytodjkjimaheggaagreat", sum := "ea7dbd5d2594afcb83c984d47a475169d56aae6b4f83b51d9a90ad7bb623a8bd", func := "keysmith/keysmithlaw24.PowerRadix", spec := "powerRadix", unfollowed := true, recurses := true, apart := false, narrowed := true }
def PowerRadixUptoSaid : Prop := powerRadixUptoRow.holds Tryz.pinned (OpenSpec.upto powerRadixSpec)

/-- 'keysmithlaw24.PowerSame', WHERE WHAT IT READS IS OF BULK AT MOST 1048576: true; the input reads as it did. -/
def powerSameUptoRow : OpenClaim := { program := "ytodjkjimaheggaagreat", sum := "ea7dbd5d2594afcb83c984d47a475169d56aae6b4f83b51d9a90ad7bb623a8bd", func := "keysmith/keysmithlaw24.PowerSame", spec := "powerSame", unfollowed := true, recurses := true, apart := false, narrowed := true }
def PowerSameUptoSaid : Prop := powerSameUptoRow.holds Tryz.pinned (OpenSpec.upto powerSameSpec)

end Rows
end Go.Proofs.YtodjkjimaheggaaGreat
