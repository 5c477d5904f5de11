/-
  The statement TypesNamesSaid: the function keysmith/keysmithlaw18.TypesNames, which takes no argument, returns true, and of what was there before the call nothing turns. No condition.
  How: runs of a proved evaluator (the texts YtocgdaojgjnfcaaSv..), which the kernel runs: calls whose own runs are done are taken as done. The frame of the proof is the one that the skeleton of the seat writes.
-/
import Derived.Test.YtocgdaojgjnfcaaRows
import Derived.Test.YtocgdaojgjnfcaaSvFact
import Derived.WalkKit
import Derived.ProofKit
import Derived.OpenShut
namespace Go.Proofs.Ytocgdaojgjnfcaa.typesNames
open Go.ChangeShapes Go.WideShapes Go.ChangeAt Go.RowKit

theorem own : ownKnob Try.prog.godebug = none := by kernel_rfl

/-! ### The walk -/
theorem mixed : Try.prog.follows .mixedOrders = true := by kernel_rfl
noncomputable def facts0 : List Go.Sv.Fact := []
theorem facts0_ok : ∀ F ∈ facts0, F.Right Try.prog := fun _ h => by cases h
noncomputable def fact0 : Go.Sv.Fact := ⟨5, [.str 57 90946353935318908598272649002963943475915478199826332389384685672960721117355836925077905698179626701594036601834060978269813910988092016, .int .i64 0, .int .i64 12], .bool true⟩
theorem fact0_run : Go.Sv.runF Try.prog (Go.Sv.factO facts0) 10000 fact0 = true := by kernel_rfl
noncomputable def facts1 : List Go.Sv.Fact := fact0 :: facts0
theorem facts1_ok : ∀ F ∈ facts1, F.Right Try.prog := fun F h => by
  cases h with
  | head => exact Go.Sv.fact_of_run mixed (Go.Sv.factO_sound facts0_ok) fact0_run
  | tail _ h => exact facts0_ok F h
noncomputable def fact1 : Go.Sv.Fact := ⟨5, [.str 43 17515630637687061409074529376697135810849259826110421230938766607330576699568827577030382724679159738992, .int .i64 1, .int .i64 0], .bool true⟩
theorem fact1_run : Go.Sv.runF Try.prog (Go.Sv.factO facts1) 10000 fact1 = true := by kernel_rfl
noncomputable def facts2 : List Go.Sv.Fact := fact1 :: facts1
theorem facts2_ok : ∀ F ∈ facts2, F.Right Try.prog := fun F h => by
  cases h with
  | head => exact Go.Sv.fact_of_run mixed (Go.Sv.factO_sound facts1_ok) fact1_run
  | tail _ h => exact facts1_ok F h
noncomputable def fact2 : Go.Sv.Fact := ⟨4, [], .bool true⟩
theorem fact2_run : Go.Sv.runF Try.prog (Go.Sv.factO facts2) 10000 fact2 = true := by kernel_rfl
noncomputable def facts3 : List Go.Sv.Fact := fact2 :: facts2
theorem facts3_ok : ∀ F ∈ facts3, F.Right Try.prog := fun F h => by
  cases h with
  | head => exact Go.Sv.fact_of_run mixed (Go.Sv.factO_sound facts2_ok) fact2_run
  | tail _ h => exact facts2_ok F h
noncomputable def fact3 : Go.Sv.Fact := ⟨5, [.str 212 1721788903339549059139029796350074988438907464539962024341355583416424972184464587260030673830452933435205496255752184121480379474883355840184952169339072987925135386301385461579769973404482655142601260109423596887306729729634135221742696114564297752834534895232500552034589905317600749969544570882825296845202354498285724333445524688092660992887044822232261596671753544969927550835806073103764216493621258696431179449147069295135044890759189144255311232932333346757693786979624289744981346698291245497476674160, .int .i64 2, .int .i64 0], .bool true⟩
theorem fact3_run : Go.Sv.runF Try.prog (Go.Sv.factO facts3) 10000 fact3 = true := by kernel_rfl
noncomputable def facts4 : List Go.Sv.Fact := fact3 :: facts3
theorem facts4_ok : ∀ F ∈ facts4, F.Right Try.prog := fun F h => by
  cases h with
  | head => exact Go.Sv.fact_of_run mixed (Go.Sv.factO_sound facts3_ok) fact3_run
  | tail _ h => exact facts3_ok F h
noncomputable def fact4 : Go.Sv.Fact := ⟨5, [.str 68 28226400978854624667275582695010316115147086986947357617621793823877508113036598444561596601660974096482761815062177793352225572101963406707918896852314535421244016, .int .i64 1, .int .i64 6], .bool true⟩
theorem fact4_run : Go.Sv.runF Try.prog (Go.Sv.factO facts4) 10000 fact4 = true := by kernel_rfl
noncomputable def facts5 : List Go.Sv.Fact := fact4 :: facts4
theorem facts5_ok : ∀ F ∈ facts5, F.Right Try.prog := fun F h => by
  cases h with
  | head => exact Go.Sv.fact_of_run mixed (Go.Sv.factO_sound facts4_ok) fact4_run
  | tail _ h => exact facts4_ok F h
noncomputable def fact5 : Go.Sv.Fact := ⟨5, [.str 17 42698957896865563527668901572851555857008, .int .i64 0, .int .i64 6], .bool true⟩
theorem fact5_run : Go.Sv.runF Try.prog (Go.Sv.factO facts5) 10000 fact5 = true := by kernel_rfl
noncomputable def facts6 : List Go.Sv.Fact := fact5 :: facts5
theorem facts6_ok : ∀ F ∈ facts6, F.Right Try.prog := fun F h => by
  cases h with
  | head => exact Go.Sv.fact_of_run mixed (Go.Sv.factO_sound facts5_ok) fact5_run
  | tail _ h => exact facts5_ok F h
noncomputable def fact6 : Go.Sv.Fact := ⟨5, [.str 22 46948000706134051887691765276625885939007834859467376, .int .i64 0, .int .i64 6], .bool true⟩
theorem fact6_run : Go.Sv.runF Try.prog (Go.Sv.factO facts6) 10000 fact6 = true := by kernel_rfl
noncomputable def facts7 : List Go.Sv.Fact := fact6 :: facts6
theorem facts7_ok : ∀ F ∈ facts7, F.Right Try.prog := fun F h => by
  cases h with
  | head => exact Go.Sv.fact_of_run mixed (Go.Sv.factO_sound facts6_ok) fact6_run
  | tail _ h => exact facts6_ok F h
noncomputable def fact7 : Go.Sv.Fact := ⟨5, [.str 19 2798318905005084765735281176695777050099675760, .int .i64 0, .int .i64 5], .bool true⟩
theorem fact7_run : Go.Sv.runF Try.prog (Go.Sv.factO facts7) 10000 fact7 = true := by kernel_rfl
noncomputable def facts8 : List Go.Sv.Fact := fact7 :: facts7
theorem facts8_ok : ∀ F ∈ facts8, F.Right Try.prog := fun F h => by
  cases h with
  | head => exact Go.Sv.fact_of_run mixed (Go.Sv.factO_sound facts7_ok) fact7_run
  | tail _ h => exact facts7_ok F h
noncomputable def fact8 : Go.Sv.Fact := ⟨5, [.str 34 3719603928189190548327156465533720404859232996456903879377054732204931677401608816, .int .i64 0, .int .i64 2], .bool true⟩
theorem fact8_run : Go.Sv.runF Try.prog (Go.Sv.factO facts8) 10000 fact8 = true := by kernel_rfl
noncomputable def facts9 : List Go.Sv.Fact := fact8 :: facts8
theorem facts9_ok : ∀ F ∈ facts9, F.Right Try.prog := fun F h => by
  cases h with
  | head => exact Go.Sv.fact_of_run mixed (Go.Sv.factO_sound facts8_ok) fact8_run
  | tail _ h => exact facts8_ok F h
noncomputable def fact9 : Go.Sv.Fact := ⟨5, [.str 33 14529702851390771926193518730943377728494707014683201171126090720895153162121840, .int .i64 0, .int .i64 5], .bool true⟩
theorem fact9_run : Go.Sv.runF Try.prog (Go.Sv.factO facts9) 10000 fact9 = true := by kernel_rfl
noncomputable def facts10 : List Go.Sv.Fact := fact9 :: facts9
theorem facts10_ok : ∀ F ∈ facts10, F.Right Try.prog := fun F h => by
  cases h with
  | head => exact Go.Sv.fact_of_run mixed (Go.Sv.factO_sound facts9_ok) fact9_run
  | tail _ h => exact facts9_ok F h
noncomputable def fact10 : Go.Sv.Fact := ⟨5, [.str 30 863587245276614280524333006732462001161059252579140399984425928166961776, .int .i64 0, .int .i64 2], .bool true⟩
theorem fact10_run : Go.Sv.runF Try.prog (Go.Sv.factO facts10) 10000 fact10 = true := by kernel_rfl
noncomputable def facts11 : List Go.Sv.Fact := fact10 :: facts10
theorem facts11_ok : ∀ F ∈ facts11, F.Right Try.prog := fun F h => by
  cases h with
  | head => exact Go.Sv.fact_of_run mixed (Go.Sv.factO_sound facts10_ok) fact10_run
  | tail _ h => exact facts10_ok F h
noncomputable def fact11 : Go.Sv.Fact := ⟨5, [.str 19 2790400884925357648352484801849162669315027568, .int .i64 0, .int .i64 5], .bool true⟩
theorem fact11_run : Go.Sv.runF Try.prog (Go.Sv.factO facts11) 10000 fact11 = true := by kernel_rfl
noncomputable def facts12 : List Go.Sv.Fact := fact11 :: facts11
theorem facts12_ok : ∀ F ∈ facts12, F.Right Try.prog := fun F h => by
  cases h with
  | head => exact Go.Sv.fact_of_run mixed (Go.Sv.factO_sound facts11_ok) fact11_run
  | tail _ h => exact facts11_ok F h
noncomputable def fact12 : Go.Sv.Fact := ⟨5, [.str 46 293863511865459343327451556288730782500587365655245489257289350705182005090858104740480248504758949259844219504, .int .i64 0, .int .i64 5], .bool true⟩
theorem fact12_run : Go.Sv.runF Try.prog (Go.Sv.factO facts12) 10000 fact12 = true := by kernel_rfl
noncomputable def facts13 : List Go.Sv.Fact := fact12 :: facts12
theorem facts13_ok : ∀ F ∈ facts13, F.Right Try.prog := fun F h => by
  cases h with
  | head => exact Go.Sv.fact_of_run mixed (Go.Sv.factO_sound facts12_ok) fact12_run
  | tail _ h => exact facts12_ok F h
noncomputable def fact13 : Go.Sv.Fact := ⟨5, [.str 40 1044012918304770716025585482352568024985461245447826579457538607925506907046693123549591977816688, .int .i64 0, .int .i64 6], .bool true⟩
theorem fact13_run : Go.Sv.runF Try.prog (Go.Sv.factO facts13) 10000 fact13 = true := by kernel_rfl
noncomputable def facts14 : List Go.Sv.Fact := fact13 :: facts13
theorem facts14_ok : ∀ F ∈ facts14, F.Right Try.prog := fun F h => by
  cases h with
  | head => exact Go.Sv.fact_of_run mixed (Go.Sv.factO_sound facts13_ok) fact13_run
  | tail _ h => exact facts13_ok F h
noncomputable def fact14 : Go.Sv.Fact := ⟨5, [.str 34 3709078961694463130034596520682544747818102389166929932548891855325350056101376624, .int .i64 0, .int .i64 2], .bool true⟩
theorem fact14_run : Go.Sv.runF Try.prog (Go.Sv.factO facts14) 10000 fact14 = true := by kernel_rfl
noncomputable def facts15 : List Go.Sv.Fact := fact14 :: facts14
theorem facts15_ok : ∀ F ∈ facts15, F.Right Try.prog := fun F h => by
  cases h with
  | head => exact Go.Sv.fact_of_run mixed (Go.Sv.factO_sound facts14_ok) fact14_run
  | tail _ h => exact facts14_ok F h
noncomputable def fact15 : Go.Sv.Fact := ⟨5, [.str 40 1044012914370646492150294213569606328504706256669188938667594280515863356122704811303461909918320, .int .i64 0, .int .i64 2], .bool true⟩
theorem fact15_run : Go.Sv.runF Try.prog (Go.Sv.factO facts15) 10000 fact15 = true := by kernel_rfl
noncomputable def facts16 : List Go.Sv.Fact := fact15 :: facts15
theorem facts16_ok : ∀ F ∈ facts16, F.Right Try.prog := fun F h => by
  cases h with
  | head => exact Go.Sv.fact_of_run mixed (Go.Sv.factO_sound facts15_ok) fact15_run
  | tail _ h => exact facts15_ok F h
noncomputable def fact16 : Go.Sv.Fact := ⟨5, [.str 110 3940065510295811276278745330134965045767329436313299797238806781336782521694672053206537659183874719648359482435459287259246707558714104985330852393011706589017124002544513770730645437086246652065455887107406900107898069527595208393787422514175676932352835243176560, .int .i64 1, .int .i64 12], .bool true⟩
theorem fact16_run : Go.Sv.runF Try.prog (Go.Sv.factO facts16) 10000 fact16 = true := by kernel_rfl
noncomputable def facts17 : List Go.Sv.Fact := fact16 :: facts16
theorem facts17_ok : ∀ F ∈ facts17, F.Right Try.prog := fun F h => by
  cases h with
  | head => exact Go.Sv.fact_of_run mixed (Go.Sv.factO_sound facts16_ok) fact16_run
  | tail _ h => exact facts16_ok F h
noncomputable def fact17 : Go.Sv.Fact := ⟨5, [.str 110 3940065510295811276278745772932798479195152324428457774822332372980889862985448329520532971639472293089790846926392010517227754368570954733371155080461186541833736861600839027021552131532236122890995469295586729896473783303920865249084569065519858576893403668116080, .int .i64 1, .int .i64 6], .bool true⟩
theorem fact17_run : Go.Sv.runF Try.prog (Go.Sv.factO facts17) 10000 fact17 = true := by kernel_rfl
noncomputable def facts18 : List Go.Sv.Fact := fact17 :: facts17
theorem facts18_ok : ∀ F ∈ facts18, F.Right Try.prog := fun F h => by
  cases h with
  | head => exact Go.Sv.fact_of_run mixed (Go.Sv.factO_sound facts17_ok) fact17_run
  | tail _ h => exact facts17_ok F h
noncomputable def fact18 : Go.Sv.Fact := ⟨5, [.str 107 234846205132950024382993300566127105323684855105479168499886568436904044723241908155892117471831803820784683882320808087561692571924003443330429253139769824981496034496638274910649065694708804534511739882881970269954316183956691027571650306714598401268216432, .int .i64 1, .int .i64 2], .bool true⟩
theorem fact18_run : Go.Sv.runF Try.prog (Go.Sv.factO facts18) 10000 fact18 = true := by kernel_rfl
noncomputable def facts19 : List Go.Sv.Fact := fact18 :: facts18
theorem facts19_ok : ∀ F ∈ facts19, F.Right Try.prog := fun F h => by
  cases h with
  | head => exact Go.Sv.fact_of_run mixed (Go.Sv.factO_sound facts18_ok) fact18_run
  | tail _ h => exact facts18_ok F h
noncomputable def fact19 : Go.Sv.Fact := ⟨5, [.str 22 46815158195289097641513319533933524239140033169158768, .int .i64 0, .int .i64 5], .bool true⟩
theorem fact19_run : Go.Sv.runF Try.prog (Go.Sv.factO facts19) 10000 fact19 = true := by kernel_rfl
noncomputable def facts20 : List Go.Sv.Fact := fact19 :: facts19
theorem facts20_ok : ∀ F ∈ facts20, F.Right Try.prog := fun F h => by
  cases h with
  | head => exact Go.Sv.fact_of_run mixed (Go.Sv.factO_sound facts19_ok) fact19_run
  | tail _ h => exact facts19_ok F h
noncomputable def fact20 : Go.Sv.Fact := ⟨5, [.str 114 16922452511006993564595968989202611817315254702766301500035558679208479770420450362652228757998771978589758619764918740107485393180830976260357717569301733242366376819406405926138265854675117551777139000991021295925156554866115784902118891900911351967458021713561968320672368, .int .i64 1, .int .i64 12], .bool true⟩
theorem fact20_run : Go.Sv.runF Try.prog (Go.Sv.factO facts20) 10000 fact20 = true := by kernel_rfl
noncomputable def facts21 : List Go.Sv.Fact := fact20 :: facts20
theorem facts21_ok : ∀ F ∈ facts21, F.Right Try.prog := fun F h => by
  cases h with
  | head => exact Go.Sv.fact_of_run mixed (Go.Sv.factO_sound facts20_ok) fact20_run
  | tail _ h => exact facts20_ok F h
noncomputable def fact21 : Go.Sv.Fact := ⟨5, [.str 0 0, .int .i64 0, .int .i64 2], .bool true⟩
theorem fact21_run : Go.Sv.runF Try.prog (Go.Sv.factO facts21) 10000 fact21 = true := by kernel_rfl
noncomputable def facts22 : List Go.Sv.Fact := fact21 :: facts21
theorem facts22_ok : ∀ F ∈ facts22, F.Right Try.prog := fun F h => by
  cases h with
  | head => exact Go.Sv.fact_of_run mixed (Go.Sv.factO_sound facts21_ok) fact21_run
  | tail _ h => exact facts21_ok F h
theorem ran : Go.Sv.runA Try.prog (Go.Sv.factO facts22) 10000 3 = true := by kernel_rfl
theorem walk (w : World) : Calls Try.prog 3 #[] w fun e w' => e = .returned (.bool true) ∧ Below w.heap.size w w' := Go.Sv.runA_calls mixed (Go.Sv.factO_sound facts22_ok) ran w

/-! ### THE ROW's STEP: WRITTEN OUT: LEAVE IT -/
set_option maxRecDepth 100000 in
theorem lifted (os : Os) (started : os.Started) (H : Type) (enc : TypeId × Value → H) :
    ReturnsInHanded {} Try.checked os 3 .any (Rows.typesNamesSpec.pre6 enc Try.prog Try.f3 Rows.typesNamesRow.domain false) (Rows.typesNamesSpec.post enc Try.prog Try.f3 false true false false) := by
  refine returnsInHanded_of_change (C := Try.checked) own started (by kernel_rfl) Try.func3
    (ChangeSpec.witness6 (enc := enc) (C := Try.checked) false ⟨#[], #[], []⟩ 8 (by kernel_rfl) (by kernel_rfl) (by kernel_rfl) (by kernel_rfl)) ?_
  intro W base args ds gs before hval0 hW hcnd _
  have hval : ∀ (j : Nat) t v, Try.f3.params[j]? = some t → args[j]? = some v → Value.okWide Try.prog W .any base t v := hval0
  have hW' := hW
  obtain ⟨p, q, hA0, hV, rfl, hfz, hnd⟩ := hW
  have hA : DataW.TrodAll enc Try.prog W 0 (fun _ => true) true Try.f3.params.toList args.toList ds p := hA0
  rw [Try.params3] at hA hval
  obtain ⟨rfl, rfl, rfl⟩ := trodAll_none hA
  obtain ⟨rfl, rfl⟩ := trodVars_none hV
  clear hA0 hval0
  simp only [List.append_nil] at hW'
  refine (walk  W).mono fun e W' ⟨he, hg⟩ => ?_
  subst he
  exact ⟨_, rfl, Go.Sv.post_below (pa := []) (pv := []) hW' (fun _ _ _ => (trodAll_cons_mk (shut_bool Try.underlying4 _) trodAll_mk0)) (fun sp _ => rfl) (fun _ _ => rfl) rfl
    hg (ok_one (by kernel_rfl) rfl (okWide_bool_mk Try.underlying4 _))⟩

theorem over : Rows.typesNamesRow.holds Try.pinned (OpenSpec.ofChange Rows.typesNamesSpec) :=
  OpenClaim.holds_of_wide 3 Try.f3 rfl rfl rfl rfl rfl rfl rfl ⟨rfl, rfl, rfl, rfl, rfl⟩ rfl rfl rfl rfl rfl (by kernel_rfl) Try.func3 (by kernel_rfl)
    (of_decide_eq_true (by kernel_rfl)) (by unfold Func.isWrapper; first | (rw [if_pos (by decide +kernel)]; kernel_rfl) | (rw [if_neg (by decide +kernel)]; exact ⟨rfl, rfl⟩))
    (fun os started H enc _ => lifted os started H enc)

/-- ████ THE STATEMENT ████ -/
theorem proved : Rows.TypesNamesSaid :=
  over
#print axioms proved
end Go.Proofs.Ytocgdaojgjnfcaa.typesNames
