/-
  The statement LengthsNamesSaid: the function keysmith/keysmithlaw19.LengthsNames, which takes no argument, returns true, and of what was there before the call nothing turns. No condition.
  How: runs of a proved evaluator (the texts YtnlnmpjdcopngaaGreatSv..), which the kernel runs: calls whose own runs are done are taken as done. The frame of the proof is the one that the skeleton of the seat writes.
-/
import Derived.Test.YtnlnmpjdcopngaaGreatRows
import Derived.Test.YtnlnmpjdcopngaaGreatSvFact3
import Derived.WalkKit
import Derived.ProofKit
import Derived.OpenShut
namespace Go.Proofs.YtnlnmpjdcopngaaGreat.lengthsNames
open Go.ChangeShapes Go.WideShapes Go.ChangeAt Go.RowKit

theorem own : ownKnob Tryz.prog.godebug = none := by kernel_rfl

/-! ### The walk -/
theorem mixed : Tryz.prog.follows .mixedOrders = true := by kernel_rfl
noncomputable def facts0 : List Go.Sv.Fact := []
theorem facts0_ok : ∀ F ∈ facts0, F.Right Tryz.prog := fun _ h => by cases h
noncomputable def fact0 : Go.Sv.Fact := ⟨4, [], .bool true⟩
theorem fact0_run : Go.Sv.runF Tryz.prog (Go.Sv.factO facts0) 10000 fact0 = true := by kernel_rfl
noncomputable def facts1 : List Go.Sv.Fact := fact0 :: facts0
theorem facts1_ok : ∀ F ∈ facts1, F.Right Tryz.prog := fun F h => by
  cases h with
  | head => exact Go.Sv.fact_of_run mixed (Go.Sv.factO_sound facts0_ok) fact0_run
  | tail _ h => exact facts0_ok F h
noncomputable def fact1 : Go.Sv.Fact := ⟨9, [.str 22 46948000706153788301319257717250555065952351720272496, .int .i64 2, .nilSl], .bool true⟩
theorem fact1_run : Go.Sv.runF Tryz.prog (Go.Sv.factO facts1) 10000 fact1 = true := by kernel_rfl
noncomputable def facts2 : List Go.Sv.Fact := fact1 :: facts1
theorem facts2_ok : ∀ F ∈ facts2, F.Right Tryz.prog := fun F h => by
  cases h with
  | head => exact Go.Sv.fact_of_run mixed (Go.Sv.factO_sound facts1_ok) fact1_run
  | tail _ h => exact facts1_ok F h
noncomputable def fact2 : Go.Sv.Fact := ⟨9, [.str 51 323106347093083006680938044670716623147481081913412449975266501754878557770505544572345922075059347167010746817641542808176, .int .i64 2, .nilSl], .bool true⟩
theorem fact2_run : Go.Sv.runF Tryz.prog (Go.Sv.factO facts2) 10000 fact2 = true := by kernel_rfl
noncomputable def facts3 : List Go.Sv.Fact := fact2 :: facts2
theorem facts3_ok : ∀ F ∈ facts3, F.Right Tryz.prog := fun F h => by
  cases h with
  | head => exact Go.Sv.fact_of_run mixed (Go.Sv.factO_sound facts2_ok) fact2_run
  | tail _ h => exact facts2_ok F h
noncomputable def fact3 : Go.Sv.Fact := ⟨9, [.str 160 10174233683615791963403146366014666312445784473252441207719644475798851981277137297578426285141651509755063164939746340295346610489179805719150656001357191453784984983324148149247501823703536411209608109640244205863441256985113304756014649065215321610209152985230454771242073833902396271369123639404209166878372107062603973187008135280518252180236897868538638822220437046447050572395120, .int .i64 2, .nilSl], .bool true⟩
theorem fact3_run : Go.Sv.runF Tryz.prog (Go.Sv.factO facts3) 10000 fact3 = true := by kernel_rfl
noncomputable def facts4 : List Go.Sv.Fact := fact3 :: facts3
theorem facts4_ok : ∀ F ∈ facts4, F.Right Tryz.prog := fun F h => by
  cases h with
  | head => exact Go.Sv.fact_of_run mixed (Go.Sv.factO_sound facts3_ok) fact3_run
  | tail _ h => exact facts3_ok F h
noncomputable def fact4 : Go.Sv.Fact := ⟨9, [.str 11 151697171790764615821914736, .int .i64 2, .nilSl], .bool true⟩
theorem fact4_run : Go.Sv.runF Tryz.prog (Go.Sv.factO facts4) 10000 fact4 = true := by kernel_rfl
noncomputable def facts5 : List Go.Sv.Fact := fact4 :: facts4
theorem facts5_ok : ∀ F ∈ facts5, F.Right Tryz.prog := fun F h => by
  cases h with
  | head => exact Go.Sv.fact_of_run mixed (Go.Sv.factO_sound facts4_ok) fact4_run
  | tail _ h => exact facts4_ok F h
noncomputable def fact5 : Go.Sv.Fact := ⟨9, [.str 27 51473812728185664093733833262513393381121446464117351196048454256, .int .i64 5, .nilSl], .bool true⟩
theorem fact5_run : Go.Sv.runF Tryz.prog (Go.Sv.factO facts5) 10000 fact5 = true := by kernel_rfl
noncomputable def facts6 : List Go.Sv.Fact := fact5 :: facts5
theorem facts6_ok : ∀ F ∈ facts6, F.Right Tryz.prog := fun F h => by
  cases h with
  | head => exact Go.Sv.fact_of_run mixed (Go.Sv.factO_sound facts5_ok) fact5_run
  | tail _ h => exact facts5_ok F h
noncomputable def rows0 : List Go.Sv.Fact2 := []
theorem rows0_ok : ∀ F ∈ rows0, F.Right Tryz.prog := fun _ h => by cases h
noncomputable def row0 : Go.Sv.Fact2 := ⟨9, [.str 22 46948000706153788301319257717250555065952351720272496, .int .i64 2], [.int .i64 0], .bool true⟩
theorem row0_run : Go.Sv.runF2 Tryz.prog (Go.Sv.factO facts0) 10000 row0 = true := by kernel_rfl
noncomputable def rows1 : List Go.Sv.Fact2 := row0 :: rows0
theorem rows1_ok : ∀ F ∈ rows1, F.Right Tryz.prog := fun F h => by
  cases h with
  | head => exact Go.Sv.fact2_of_run mixed (Go.Sv.factO_sound facts0_ok) row0_run
  | tail _ h => exact rows0_ok F h
noncomputable def row1 : Go.Sv.Fact2 := ⟨9, [.str 24 3076784174278490379913589078138391766360718025852487430768, .int .i64 3], [.int .i64 257], .bool true⟩
theorem row1_run : Go.Sv.runF2 Tryz.prog (Go.Sv.factO facts0) 10000 row1 = true := by kernel_rfl
noncomputable def rows2 : List Go.Sv.Fact2 := row1 :: rows1
theorem rows2_ok : ∀ F ∈ rows2, F.Right Tryz.prog := fun F h => by
  cases h with
  | head => exact Go.Sv.fact2_of_run mixed (Go.Sv.factO_sound facts0_ok) row1_run
  | tail _ h => exact rows1_ok F h
noncomputable def row2 : Go.Sv.Fact2 := ⟨9, [.str 46 293865874670916603149667779068832873676725144463628463520022958681299973890208772311822972378490307316726854256, .int .i64 3], [.int .i64 1], .bool true⟩
theorem row2_run : Go.Sv.runF2 Tryz.prog (Go.Sv.factO facts0) 10000 row2 = true := by kernel_rfl
noncomputable def rows3 : List Go.Sv.Fact2 := row2 :: rows2
theorem rows3_ok : ∀ F ∈ rows3, F.Right Tryz.prog := fun F h => by
  cases h with
  | head => exact Go.Sv.fact2_of_run mixed (Go.Sv.factO_sound facts0_ok) row2_run
  | tail _ h => exact rows2_ok F h
noncomputable def deeps0 : List Go.Sv.Fact3 := []
theorem deeps0_ok : ∀ F ∈ deeps0, F.Right Tryz.prog := fun _ h => by cases h
noncomputable def deep0 : Go.Sv.Fact3 := ⟨6, [.one (.fl (.str 247 3344865741478522612717826104558797791117437047633450906439255052602322042252489968955778613466120485765458243520377882569067588833449774674710342501617780431456893588365320673257072033304045932354825706344995703529129702386526046316128161737202047100074085577837521299504155576380396746128611479656699041452618313626251442762095046401382160009893998156927557135654298447350889245469019318129514726043411683435278424172278907038107017953960718745122239431961723211079998987116514519863411615597518164091839728160244463579745130752952136392819803828280297226662239953132357916043704856683475858032))], .val (.one (.row 6 2 (.cons (.fl (.str 1 102)) (.cons (.row 1 1 (.cons (.fl (.str 1 107)) .nil)) (.cons (.row 4 3 (.cons (.fl (.int .i64 2)) (.cons (.fl (.str 1 97)) (.cons (.fl (.int .i64 0)) (.cons (.row 2 1 (.cons (.fl (.str 1 107)) (.cons (.fl (.int .i64 1)) .nil))) (.cons (.fl (.int .i64 1)) (.cons (.fl (.str 1 110)) (.cons (.fl (.int .i64 0)) (.cons (.row 2 1 (.cons (.fl (.str 1 107)) (.cons (.fl (.int .i64 1)) .nil))) (.cons (.fl (.int .i64 3)) (.cons (.fl (.str 1 114)) (.cons (.fl (.int .i64 0)) (.cons (.row 2 1 (.cons (.fl (.str 1 107)) (.cons (.fl (.int .i64 1)) .nil))) .nil))))))))))))) (.cons (.row 3 1 (.cons (.fl (.int .i64 1)) (.cons (.fl (.str 1 110)) (.cons (.fl (.str 0 0)) .nil)))) (.cons (.row 3 1 (.cons (.fl (.int .i64 2)) (.cons (.fl (.str 1 114)) (.cons (.fl (.str 1 110)) .nil)))) (.cons (.row 9 1 (.cons (.fl (.int .i64 2)) (.cons (.fl (.str 1 114)) (.cons (.fl (.int .i64 0)) (.cons (.fl .nilSl) (.cons (.fl (.str 3 6582125)) (.cons (.row 2 2 (.cons (.fl (.str 1 97)) (.cons (.fl (.int .u64 0)) (.cons (.fl (.str 1 110)) (.cons (.fl (.int .u64 0)) .nil))))) (.cons (.fl .nilSl) (.cons (.fl .nilSl) (.cons (.fl .nilSl) .nil)))))))))) (.cons (.fl (.str 1 103)) (.cons (.row 1 1 (.cons (.fl (.str 1 107)) .nil)) (.cons (.row 4 3 (.cons (.fl (.int .i64 1)) (.cons (.fl (.str 1 110)) (.cons (.fl (.int .i64 0)) (.cons (.row 2 1 (.cons (.fl (.str 1 107)) (.cons (.fl (.int .i64 1)) .nil))) (.cons (.fl (.int .i64 2)) (.cons (.fl (.str 1 97)) (.cons (.fl (.int .i64 0)) (.cons (.row 2 1 (.cons (.fl (.str 1 107)) (.cons (.fl (.int .i64 1)) .nil))) (.cons (.fl (.int .i64 3)) (.cons (.fl (.str 1 114)) (.cons (.fl (.int .i64 0)) (.cons (.row 2 1 (.cons (.fl (.str 1 107)) (.cons (.fl (.int .i64 1)) .nil))) .nil))))))))))))) (.cons (.row 3 2 (.cons (.fl (.int .i64 1)) (.cons (.fl (.str 1 110)) (.cons (.fl (.str 0 0)) (.cons (.fl (.int .i64 2)) (.cons (.fl (.str 1 97)) (.cons (.fl (.str 1 110)) .nil))))))) (.cons (.fl .nilSl) (.cons (.row 9 4 (.cons (.fl (.int .i64 1)) (.cons (.fl (.str 1 120)) (.cons (.fl (.int .i64 0)) (.cons (.row 2 1 (.cons (.fl (.str 1 107)) (.cons (.fl (.int .i64 1)) .nil))) (.cons (.fl (.str 0 0)) (.cons (.row 2 1 (.cons (.fl (.str 1 97)) (.cons (.fl (.int .u64 0)) .nil))) (.cons (.fl .nilSl) (.cons (.fl .nilSl) (.cons (.fl .nilSl) (.cons (.fl (.int .i64 3)) (.cons (.fl (.str 0 0)) (.cons (.fl (.int .i64 1)) (.cons (.row 2 1 (.cons (.fl (.str 1 107)) (.cons (.fl (.int .i64 1)) .nil))) (.cons (.fl (.str 0 0)) (.cons (.fl .nilSl) (.cons (.fl .nilSl) (.cons (.fl .nilSl) (.cons (.row 9 1 (.cons (.fl (.int .i64 4)) (.cons (.fl (.str 0 0)) (.cons (.fl (.int .i64 0)) (.cons (.fl .nilSl) (.cons (.fl (.str 0 0)) (.cons (.fl .nilSl) (.cons (.row 1 3 (.cons (.fl (.str 1 97)) (.cons (.fl (.str 1 120)) (.cons (.fl (.str 1 114)) .nil)))) (.cons (.fl .nilSl) (.cons (.fl .nilSl) .nil)))))))))) (.cons (.fl (.int .i64 5)) (.cons (.fl (.str 1 102)) (.cons (.fl (.int .i64 0)) (.cons (.fl .nilSl) (.cons (.fl (.str 0 0)) (.cons (.fl .nilSl) (.cons (.row 1 3 (.cons (.fl (.str 1 120)) (.cons (.fl (.str 1 110)) (.cons (.fl (.str 1 114)) .nil)))) (.cons (.row 2 1 (.cons (.fl (.int .i64 0)) (.cons (.row 2 1 (.cons (.fl (.str 1 107)) (.cons (.fl (.int .i64 1)) .nil))) .nil))) (.cons (.fl .nilSl) (.cons (.fl (.int .i64 2)) (.cons (.fl (.str 1 114)) (.cons (.fl (.int .i64 0)) (.cons (.fl .nilSl) (.cons (.fl (.str 3 7827312)) (.cons (.row 2 4 (.cons (.fl (.str 1 97)) (.cons (.fl (.int .u64 0)) (.cons (.fl (.str 0 0)) (.cons (.fl (.int .u64 5)) (.cons (.fl (.str 1 110)) (.cons (.fl (.int .u64 0)) (.cons (.fl (.str 0 0)) (.cons (.fl (.int .u64 3)) .nil))))))))) (.cons (.fl .nilSl) (.cons (.fl .nilSl) (.cons (.fl .nilSl) .nil))))))))))))))))))))))))))))))))))))) .nil))))))))))))))⟩
theorem deep0_run : Go.Sv.runF3 Tryz.prog (Go.Sv.orO (Go.Sv.factO facts6) (Go.Sv.orO (Go.Sv.factR rows3) (Go.Sv.factD deeps0))) 10000 deep0 = true := by kernel_rfl
noncomputable def deeps1 : List Go.Sv.Fact3 := deep0 :: deeps0
theorem deeps1_ok : ∀ F ∈ deeps1, F.Right Tryz.prog := fun F h => by
  cases h with
  | head => exact Go.Sv.fact3_of_run mixed (Go.Sv.orO_sound (Go.Sv.factO_sound facts6_ok) (Go.Sv.orO_sound (Go.Sv.factR_sound rows3_ok) (Go.Sv.factD_sound deeps0_ok))) deep0_run
  | tail _ h => exact deeps0_ok F h
noncomputable def deep1 : Go.Sv.Fact3 := ⟨17, [.one (.row 6 2 (.cons (.fl (.str 1 102)) (.cons (.row 1 1 (.cons (.fl (.str 1 107)) .nil)) (.cons (.row 4 3 (.cons (.fl (.int .i64 2)) (.cons (.fl (.str 1 97)) (.cons (.fl (.int .i64 0)) (.cons (.row 2 1 (.cons (.fl (.str 1 107)) (.cons (.fl (.int .i64 1)) .nil))) (.cons (.fl (.int .i64 1)) (.cons (.fl (.str 1 110)) (.cons (.fl (.int .i64 0)) (.cons (.row 2 1 (.cons (.fl (.str 1 107)) (.cons (.fl (.int .i64 1)) .nil))) (.cons (.fl (.int .i64 3)) (.cons (.fl (.str 1 114)) (.cons (.fl (.int .i64 0)) (.cons (.row 2 1 (.cons (.fl (.str 1 107)) (.cons (.fl (.int .i64 1)) .nil))) .nil))))))))))))) (.cons (.row 3 1 (.cons (.fl (.int .i64 1)) (.cons (.fl (.str 1 110)) (.cons (.fl (.str 0 0)) .nil)))) (.cons (.row 3 1 (.cons (.fl (.int .i64 2)) (.cons (.fl (.str 1 114)) (.cons (.fl (.str 1 110)) .nil)))) (.cons (.row 9 1 (.cons (.fl (.int .i64 2)) (.cons (.fl (.str 1 114)) (.cons (.fl (.int .i64 0)) (.cons (.fl .nilSl) (.cons (.fl (.str 3 6582125)) (.cons (.row 2 2 (.cons (.fl (.str 1 97)) (.cons (.fl (.int .u64 0)) (.cons (.fl (.str 1 110)) (.cons (.fl (.int .u64 0)) .nil))))) (.cons (.fl .nilSl) (.cons (.fl .nilSl) (.cons (.fl .nilSl) .nil)))))))))) (.cons (.fl (.str 1 103)) (.cons (.row 1 1 (.cons (.fl (.str 1 107)) .nil)) (.cons (.row 4 3 (.cons (.fl (.int .i64 1)) (.cons (.fl (.str 1 110)) (.cons (.fl (.int .i64 0)) (.cons (.row 2 1 (.cons (.fl (.str 1 107)) (.cons (.fl (.int .i64 1)) .nil))) (.cons (.fl (.int .i64 2)) (.cons (.fl (.str 1 97)) (.cons (.fl (.int .i64 0)) (.cons (.row 2 1 (.cons (.fl (.str 1 107)) (.cons (.fl (.int .i64 1)) .nil))) (.cons (.fl (.int .i64 3)) (.cons (.fl (.str 1 114)) (.cons (.fl (.int .i64 0)) (.cons (.row 2 1 (.cons (.fl (.str 1 107)) (.cons (.fl (.int .i64 1)) .nil))) .nil))))))))))))) (.cons (.row 3 2 (.cons (.fl (.int .i64 1)) (.cons (.fl (.str 1 110)) (.cons (.fl (.str 0 0)) (.cons (.fl (.int .i64 2)) (.cons (.fl (.str 1 97)) (.cons (.fl (.str 1 110)) .nil))))))) (.cons (.fl .nilSl) (.cons (.row 9 4 (.cons (.fl (.int .i64 1)) (.cons (.fl (.str 1 120)) (.cons (.fl (.int .i64 0)) (.cons (.row 2 1 (.cons (.fl (.str 1 107)) (.cons (.fl (.int .i64 1)) .nil))) (.cons (.fl (.str 0 0)) (.cons (.row 2 1 (.cons (.fl (.str 1 97)) (.cons (.fl (.int .u64 0)) .nil))) (.cons (.fl .nilSl) (.cons (.fl .nilSl) (.cons (.fl .nilSl) (.cons (.fl (.int .i64 3)) (.cons (.fl (.str 0 0)) (.cons (.fl (.int .i64 1)) (.cons (.row 2 1 (.cons (.fl (.str 1 107)) (.cons (.fl (.int .i64 1)) .nil))) (.cons (.fl (.str 0 0)) (.cons (.fl .nilSl) (.cons (.fl .nilSl) (.cons (.fl .nilSl) (.cons (.row 9 1 (.cons (.fl (.int .i64 4)) (.cons (.fl (.str 0 0)) (.cons (.fl (.int .i64 0)) (.cons (.fl .nilSl) (.cons (.fl (.str 0 0)) (.cons (.fl .nilSl) (.cons (.row 1 3 (.cons (.fl (.str 1 97)) (.cons (.fl (.str 1 120)) (.cons (.fl (.str 1 114)) .nil)))) (.cons (.fl .nilSl) (.cons (.fl .nilSl) .nil)))))))))) (.cons (.fl (.int .i64 5)) (.cons (.fl (.str 1 102)) (.cons (.fl (.int .i64 0)) (.cons (.fl .nilSl) (.cons (.fl (.str 0 0)) (.cons (.fl .nilSl) (.cons (.row 1 3 (.cons (.fl (.str 1 120)) (.cons (.fl (.str 1 110)) (.cons (.fl (.str 1 114)) .nil)))) (.cons (.row 2 1 (.cons (.fl (.int .i64 0)) (.cons (.row 2 1 (.cons (.fl (.str 1 107)) (.cons (.fl (.int .i64 1)) .nil))) .nil))) (.cons (.fl .nilSl) (.cons (.fl (.int .i64 2)) (.cons (.fl (.str 1 114)) (.cons (.fl (.int .i64 0)) (.cons (.fl .nilSl) (.cons (.fl (.str 3 7827312)) (.cons (.row 2 4 (.cons (.fl (.str 1 97)) (.cons (.fl (.int .u64 0)) (.cons (.fl (.str 0 0)) (.cons (.fl (.int .u64 5)) (.cons (.fl (.str 1 110)) (.cons (.fl (.int .u64 0)) (.cons (.fl (.str 0 0)) (.cons (.fl (.int .u64 3)) .nil))))))))) (.cons (.fl .nilSl) (.cons (.fl .nilSl) (.cons (.fl .nilSl) .nil))))))))))))))))))))))))))))))))))))) .nil)))))))))))))], .tup [.one (.fl (.int .i64 2)), .one (.fl (.int .i64 0))]⟩
theorem deep1_run : Go.Sv.runF3 Tryz.prog (Go.Sv.orO (Go.Sv.factO facts6) (Go.Sv.orO (Go.Sv.factR rows3) (Go.Sv.factD deeps1))) 10000 deep1 = true := by kernel_rfl
noncomputable def deeps2 : List Go.Sv.Fact3 := deep1 :: deeps1
theorem deeps2_ok : ∀ F ∈ deeps2, F.Right Tryz.prog := fun F h => by
  cases h with
  | head => exact Go.Sv.fact3_of_run mixed (Go.Sv.orO_sound (Go.Sv.factO_sound facts6_ok) (Go.Sv.orO_sound (Go.Sv.factR_sound rows3_ok) (Go.Sv.factD_sound deeps1_ok))) deep1_run
  | tail _ h => exact deeps1_ok F h
noncomputable def deep2 : Go.Sv.Fact3 := ⟨5, [.one (.row 6 2 (.cons (.fl (.str 1 102)) (.cons (.row 1 1 (.cons (.fl (.str 1 107)) .nil)) (.cons (.row 4 3 (.cons (.fl (.int .i64 2)) (.cons (.fl (.str 1 97)) (.cons (.fl (.int .i64 0)) (.cons (.row 2 1 (.cons (.fl (.str 1 107)) (.cons (.fl (.int .i64 1)) .nil))) (.cons (.fl (.int .i64 1)) (.cons (.fl (.str 1 110)) (.cons (.fl (.int .i64 0)) (.cons (.row 2 1 (.cons (.fl (.str 1 107)) (.cons (.fl (.int .i64 1)) .nil))) (.cons (.fl (.int .i64 3)) (.cons (.fl (.str 1 114)) (.cons (.fl (.int .i64 0)) (.cons (.row 2 1 (.cons (.fl (.str 1 107)) (.cons (.fl (.int .i64 1)) .nil))) .nil))))))))))))) (.cons (.row 3 1 (.cons (.fl (.int .i64 1)) (.cons (.fl (.str 1 110)) (.cons (.fl (.str 0 0)) .nil)))) (.cons (.row 3 1 (.cons (.fl (.int .i64 2)) (.cons (.fl (.str 1 114)) (.cons (.fl (.str 1 110)) .nil)))) (.cons (.row 9 1 (.cons (.fl (.int .i64 2)) (.cons (.fl (.str 1 114)) (.cons (.fl (.int .i64 0)) (.cons (.fl .nilSl) (.cons (.fl (.str 3 6582125)) (.cons (.row 2 2 (.cons (.fl (.str 1 97)) (.cons (.fl (.int .u64 0)) (.cons (.fl (.str 1 110)) (.cons (.fl (.int .u64 0)) .nil))))) (.cons (.fl .nilSl) (.cons (.fl .nilSl) (.cons (.fl .nilSl) .nil)))))))))) (.cons (.fl (.str 1 103)) (.cons (.row 1 1 (.cons (.fl (.str 1 107)) .nil)) (.cons (.row 4 3 (.cons (.fl (.int .i64 1)) (.cons (.fl (.str 1 110)) (.cons (.fl (.int .i64 0)) (.cons (.row 2 1 (.cons (.fl (.str 1 107)) (.cons (.fl (.int .i64 1)) .nil))) (.cons (.fl (.int .i64 2)) (.cons (.fl (.str 1 97)) (.cons (.fl (.int .i64 0)) (.cons (.row 2 1 (.cons (.fl (.str 1 107)) (.cons (.fl (.int .i64 1)) .nil))) (.cons (.fl (.int .i64 3)) (.cons (.fl (.str 1 114)) (.cons (.fl (.int .i64 0)) (.cons (.row 2 1 (.cons (.fl (.str 1 107)) (.cons (.fl (.int .i64 1)) .nil))) .nil))))))))))))) (.cons (.row 3 2 (.cons (.fl (.int .i64 1)) (.cons (.fl (.str 1 110)) (.cons (.fl (.str 0 0)) (.cons (.fl (.int .i64 2)) (.cons (.fl (.str 1 97)) (.cons (.fl (.str 1 110)) .nil))))))) (.cons (.fl .nilSl) (.cons (.row 9 4 (.cons (.fl (.int .i64 1)) (.cons (.fl (.str 1 120)) (.cons (.fl (.int .i64 0)) (.cons (.row 2 1 (.cons (.fl (.str 1 107)) (.cons (.fl (.int .i64 1)) .nil))) (.cons (.fl (.str 0 0)) (.cons (.row 2 1 (.cons (.fl (.str 1 97)) (.cons (.fl (.int .u64 0)) .nil))) (.cons (.fl .nilSl) (.cons (.fl .nilSl) (.cons (.fl .nilSl) (.cons (.fl (.int .i64 3)) (.cons (.fl (.str 0 0)) (.cons (.fl (.int .i64 1)) (.cons (.row 2 1 (.cons (.fl (.str 1 107)) (.cons (.fl (.int .i64 1)) .nil))) (.cons (.fl (.str 0 0)) (.cons (.fl .nilSl) (.cons (.fl .nilSl) (.cons (.fl .nilSl) (.cons (.row 9 1 (.cons (.fl (.int .i64 4)) (.cons (.fl (.str 0 0)) (.cons (.fl (.int .i64 0)) (.cons (.fl .nilSl) (.cons (.fl (.str 0 0)) (.cons (.fl .nilSl) (.cons (.row 1 3 (.cons (.fl (.str 1 97)) (.cons (.fl (.str 1 120)) (.cons (.fl (.str 1 114)) .nil)))) (.cons (.fl .nilSl) (.cons (.fl .nilSl) .nil)))))))))) (.cons (.fl (.int .i64 5)) (.cons (.fl (.str 1 102)) (.cons (.fl (.int .i64 0)) (.cons (.fl .nilSl) (.cons (.fl (.str 0 0)) (.cons (.fl .nilSl) (.cons (.row 1 3 (.cons (.fl (.str 1 120)) (.cons (.fl (.str 1 110)) (.cons (.fl (.str 1 114)) .nil)))) (.cons (.row 2 1 (.cons (.fl (.int .i64 0)) (.cons (.row 2 1 (.cons (.fl (.str 1 107)) (.cons (.fl (.int .i64 1)) .nil))) .nil))) (.cons (.fl .nilSl) (.cons (.fl (.int .i64 2)) (.cons (.fl (.str 1 114)) (.cons (.fl (.int .i64 0)) (.cons (.fl .nilSl) (.cons (.fl (.str 3 7827312)) (.cons (.row 2 4 (.cons (.fl (.str 1 97)) (.cons (.fl (.int .u64 0)) (.cons (.fl (.str 0 0)) (.cons (.fl (.int .u64 5)) (.cons (.fl (.str 1 110)) (.cons (.fl (.int .u64 0)) (.cons (.fl (.str 0 0)) (.cons (.fl (.int .u64 3)) .nil))))))))) (.cons (.fl .nilSl) (.cons (.fl .nilSl) (.cons (.fl .nilSl) .nil))))))))))))))))))))))))))))))))))))) .nil))))))))))))), .one (.row 1 1 (.cons (.fl (.int .i64 1)) .nil))], .tup [.agg (.cons (.row 3 5 (.cons (.fl (.int .i64 1)) (.cons (.fl (.bool false)) (.cons (.fl (.int .i64 1)) (.cons (.fl (.int .i64 1)) (.cons (.fl (.bool true)) (.cons (.fl (.int .i64 2)) (.cons (.fl (.int .i64 1)) (.cons (.fl (.bool true)) (.cons (.fl (.int .i64 3)) (.cons (.fl (.int .i64 1)) (.cons (.fl (.bool true)) (.cons (.fl (.int .i64 0)) (.cons (.fl (.int .i64 1)) (.cons (.fl (.bool false)) (.cons (.fl (.int .i64 0)) .nil)))))))))))))))) (.cons (.row 7 11 (.cons (.fl (.int .i64 1)) (.cons (.fl (.int .i64 2)) (.cons (.fl (.int .i64 (-1))) (.cons (.fl (.int .i64 (-1))) (.cons (.fl (.int .i64 (-1))) (.cons (.fl (.int .i64 (-1))) (.cons (.fl (.int .u64 0)) (.cons (.fl (.int .i64 2)) (.cons (.fl (.int .i64 3)) (.cons (.fl (.int .i64 (-1))) (.cons (.fl (.int .i64 1)) (.cons (.fl (.int .i64 (-1))) (.cons (.fl (.int .i64 (-1))) (.cons (.fl (.int .u64 0)) (.cons (.fl (.int .i64 15)) (.cons (.fl (.int .i64 (-1))) (.cons (.fl (.int .i64 (-1))) (.cons (.fl (.int .i64 (-1))) (.cons (.fl (.int .i64 (-1))) (.cons (.fl (.int .i64 (-1))) (.cons (.fl (.int .u64 2)) (.cons (.fl (.int .i64 14)) (.cons (.fl (.int .i64 3)) (.cons (.fl (.int .i64 2)) (.cons (.fl (.int .i64 (-1))) (.cons (.fl (.int .i64 (-1))) (.cons (.fl (.int .i64 1)) (.cons (.fl (.int .u64 0)) (.cons (.fl (.int .i64 16)) (.cons (.fl (.int .i64 (-1))) (.cons (.fl (.int .i64 (-1))) (.cons (.fl (.int .i64 (-1))) (.cons (.fl (.int .i64 (-1))) (.cons (.fl (.int .i64 (-1))) (.cons (.fl (.int .u64 0)) (.cons (.fl (.int .i64 17)) (.cons (.fl (.int .i64 (-1))) (.cons (.fl (.int .i64 (-1))) (.cons (.fl (.int .i64 0)) (.cons (.fl (.int .i64 (-1))) (.cons (.fl (.int .i64 (-1))) (.cons (.fl (.int .u64 1)) (.cons (.fl (.int .i64 1)) (.cons (.fl (.int .i64 2)) (.cons (.fl (.int .i64 (-1))) (.cons (.fl (.int .i64 (-1))) (.cons (.fl (.int .i64 (-1))) (.cons (.fl (.int .i64 (-1))) (.cons (.fl (.int .u64 0)) (.cons (.fl (.int .i64 9)) (.cons (.fl (.int .i64 2)) (.cons (.fl (.int .i64 (-1))) (.cons (.fl (.int .i64 3)) (.cons (.fl (.int .i64 (-1))) (.cons (.fl (.int .i64 0)) (.cons (.fl (.int .u64 0)) (.cons (.fl (.int .i64 17)) (.cons (.fl (.int .i64 (-1))) (.cons (.fl (.int .i64 (-1))) (.cons (.fl (.int .i64 2)) (.cons (.fl (.int .i64 0)) (.cons (.fl (.int .i64 (-1))) (.cons (.fl (.int .u64 2)) (.cons (.fl (.int .i64 1)) (.cons (.fl (.int .i64 4)) (.cons (.fl (.int .i64 (-1))) (.cons (.fl (.int .i64 (-1))) (.cons (.fl (.int .i64 (-1))) (.cons (.fl (.int .i64 (-1))) (.cons (.fl (.int .u64 5)) (.cons (.fl (.int .i64 13)) (.cons (.fl (.int .i64 2)) (.cons (.fl (.int .i64 (-1))) (.cons (.fl (.int .i64 1)) (.cons (.fl (.int .i64 4)) (.cons (.fl (.int .i64 0)) (.cons (.fl (.int .u64 3)) .nil)))))))))))))))))))))))))))))))))))))))))))))))))))))))))))))))))))))))))))))) (.cons (.row 7 2 (.cons (.fl (.int .i64 17)) (.cons (.fl (.int .i64 (-1))) (.cons (.fl (.int .i64 (-1))) (.cons (.fl (.int .i64 0)) (.cons (.fl (.int .i64 (-1))) (.cons (.fl (.int .i64 (-1))) (.cons (.fl (.int .u64 1)) (.cons (.fl (.int .i64 17)) (.cons (.fl (.int .i64 (-1))) (.cons (.fl (.int .i64 (-1))) (.cons (.fl (.int .i64 1)) (.cons (.fl (.int .i64 0)) (.cons (.fl (.int .i64 (-1))) (.cons (.fl (.int .u64 2)) .nil))))))))))))))) .nil))), .one (.fl (.int .i64 0))]⟩
theorem deep2_run : Go.Sv.runF3 Tryz.prog (Go.Sv.orO (Go.Sv.factO facts6) (Go.Sv.orO (Go.Sv.factR rows3) (Go.Sv.factD deeps2))) 10000 deep2 = true := by kernel_rfl
noncomputable def deeps3 : List Go.Sv.Fact3 := deep2 :: deeps2
theorem deeps3_ok : ∀ F ∈ deeps3, F.Right Tryz.prog := fun F h => by
  cases h with
  | head => exact Go.Sv.fact3_of_run mixed (Go.Sv.orO_sound (Go.Sv.factO_sound facts6_ok) (Go.Sv.orO_sound (Go.Sv.factR_sound rows3_ok) (Go.Sv.factD_sound deeps2_ok))) deep2_run
  | tail _ h => exact deeps2_ok F h
theorem ran : Go.Sv.runA Tryz.prog (Go.Sv.orO (Go.Sv.factO facts6) (Go.Sv.orO (Go.Sv.factR rows3) (Go.Sv.factD deeps3))) 10000 3 = true := by kernel_rfl
theorem walk (w : World) : Calls Tryz.prog 3 #[] w fun e w' => e = .returned (.bool true) ∧ Below w.heap.size w w' := Go.Sv.runA_calls mixed (Go.Sv.orO_sound (Go.Sv.factO_sound facts6_ok) (Go.Sv.orO_sound (Go.Sv.factR_sound rows3_ok) (Go.Sv.factD_sound deeps3_ok))) ran w

/-! ### THE ROW's STEP: WRITTEN OUT: LEAVE IT -/
set_option maxRecDepth 100000 in
theorem lifted (os : Os) (started : os.Started) (H : Type) (enc : TypeId × Value → H) :
    ReturnsInHanded {} Tryz.checked os 3 .any (Rows.lengthsNamesSpec.pre6 enc Tryz.prog Tryz.f3 Rows.lengthsNamesRow.domain false) (Rows.lengthsNamesSpec.post enc Tryz.prog Tryz.f3 false true false false) := by
  refine returnsInHanded_of_change (C := Tryz.checked) own started (by kernel_rfl) Tryz.func3
    (ChangeSpec.witness6 (enc := enc) (C := Tryz.checked) false ⟨#[], #[], []⟩ 8 (by kernel_rfl) (by kernel_rfl) (by kernel_rfl) (by kernel_rfl)) ?_
  intro W base args ds gs before hval0 hW hcnd _
  have hval : ∀ (j : Nat) t v, Tryz.f3.params[j]? = some t → args[j]? = some v → Value.okWide Tryz.prog W .any base t v := hval0
  have hW' := hW
  obtain ⟨p, q, hA0, hV, rfl, hfz, hnd⟩ := hW
  have hA : DataW.TrodAll enc Tryz.prog W 0 (fun _ => true) true Tryz.f3.params.toList args.toList ds p := hA0
  rw [Tryz.params3] at hA hval
  obtain ⟨rfl, rfl, rfl⟩ := trodAll_none hA
  obtain ⟨rfl, rfl⟩ := trodVars_none hV
  clear hA0 hval0
  simp only [List.append_nil] at hW'
  refine (walk  W).mono fun e W' ⟨he, hg⟩ => ?_
  subst he
  exact ⟨_, rfl, Go.Sv.post_below (pa := []) (pv := []) hW' (fun _ _ _ => (trodAll_cons_mk (shut_bool Tryz.underlying4 _) trodAll_mk0)) (fun sp _ => rfl) (fun _ _ => rfl) rfl
    hg (ok_one (by kernel_rfl) rfl (okWide_bool_mk Tryz.underlying4 _))⟩

theorem join1 : laidOutB Tryz.pinned.checked.prog = true := by kernel_rfl
theorem join2 : (Rows.lengthsNamesRow.inPlace == Tryz.pinned.checked.prog.inPlace 3) = true := by kernel_rfl
theorem join3 : (Rows.lengthsNamesRow.unfollowed == Tryz.pinned.checked.prog.unfollowed 3) = true := by kernel_rfl
theorem join4 : (Rows.lengthsNamesRow.recurses == Tryz.pinned.checked.prog.recurses 3) = true := by kernel_rfl
theorem join5 : (Rows.lengthsNamesRow.named == Tryz.pinned.checked.prog.varsNamed 3) = true := by kernel_rfl
theorem join6 : mapsRowed Tryz.pinned.checked.prog = true := by kernel_rfl
theorem over2 : joinedFacts Tryz.pinned.checked.prog 3 Tryz.f3 Rows.lengthsNamesSpec Rows.lengthsNamesRow = true := by
  unfold joinedFacts
  rw [join1, join2, join3, join4, join5, join6]
  kernel_rfl
theorem over : Rows.lengthsNamesRow.holds Tryz.pinned (OpenSpec.ofChange Rows.lengthsNamesSpec) :=
  OpenClaim.holds_of_wide 3 Tryz.f3 rfl rfl rfl rfl rfl rfl rfl ⟨rfl, rfl, rfl, rfl, rfl⟩ rfl rfl rfl rfl rfl (by kernel_rfl) Tryz.func3 over2
    (of_decide_eq_true (by kernel_rfl)) (by unfold Func.isWrapper; first | (rw [if_pos (by decide +kernel)]; kernel_rfl) | (rw [if_neg (by decide +kernel)]; exact ⟨rfl, rfl⟩))
    (fun os started H enc _ => lifted os started H enc)

/-- ████ THE STATEMENT ████ -/
theorem proved : Rows.LengthsNamesSaid :=
  over
#print axioms proved
end Go.Proofs.YtnlnmpjdcopngaaGreat.lengthsNames
