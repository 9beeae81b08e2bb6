/- Crossings and shares answer as the reference does, for all lists of lines that the statement takes and every load; others are passed over. Conditions: the listed tables of the library start as the program's text lays them. -/
import Derived.Test.YtacaadhlobbemaaGreatDoorClose
import Derived.Test.YtacaadhlobbemaaGreatDoorLaw4A
namespace Go.Proofs.YtacaadhlobbemaaGreatDoor
open Go Go.Sx Go.RowKit Go.ChangeShapes
set_option maxRecDepth 100000
theorem lift4 (os : Os) (started : os.Started) (H : Type) (enc : TypeId × Value → H) :
    ReturnsInHanded {} Tryz.checked os 4 .any (fun w args => (Rows.flowCrossingsSpec.pre enc Tryz.prog Tryz.f4 [] false w args ∧ laidMetH Tryz.prog laid3 w) ∧ sizedMet enc Tryz.prog Tryz.f4 (OpenSpec.ofChange Rows.flowCrossingsSpec) false w args)
      (Rows.flowCrossingsSpec.post enc Tryz.prog Tryz.f4 false true false false) := by
  refine returnsInHanded_of_change_and (C := Tryz.checked) (X := fun w _ => laidMetH Tryz.prog laid3 w) (fun _ _ _ hh h => h.of_heap hh) lawOwn started (by kernel_rfl) Tryz.func4
    (ChangeSpec.witness_shaped (enc := enc) (C := Tryz.checked) (os := os) (X := fun w _ => laidMetH Tryz.prog laid3 w) false (World.doorLaid Tryz.prog 400 os) #[.slice none 0 0, .int .i64 0] 8 rfl (World.shaped_of_RefB (by kernel_rfl) (by kernel_rfl)) (by kernel_rfl) (by kernel_rfl) (by kernel_rfl) (lawDoor os _)) ?_
  intro W base args ds gs before hval hW _ _ hL _
  refine law_calls (tb := 4) ok4 (fun x h => ?_) lawOut (by kernel_rfl) (by kernel_rfl) (by kernel_rfl) Tryz.underlying4 rfl (fun ds hl => ?_) (lawTab hL) hval hW
  · exact h.1.1
  · match ds, hl with
    | [_, _], _ => rfl
theorem row4a : joinedFacts Tryz.prog 4 Tryz.f4 Rows.flowCrossingsSpec Rows.flowCrossingsRow = true := by kernel_rfl
theorem row4b : Tryz.f4.isInstance Tryz.prog Rows.flowCrossingsRow.origin Rows.flowCrossingsRow.targs := of_decide_eq_true (by kernel_rfl)
theorem row4c : Tryz.f4.isWrapper Tryz.prog Rows.flowCrossingsRow.wrapper Rows.flowCrossingsRow.mainSum := by unfold Func.isWrapper; rw [if_neg (of_decide_eq_false (by kernel_rfl))]; exact ⟨rfl, rfl⟩
theorem row4d : Tryz.pinned.checked.prog.funcNamed Rows.flowCrossingsRow.func = some 4 := by kernel_rfl
theorem row4 : Rows.FlowCrossingsSaid :=
  OpenClaim.holds_of_wide (p := Tryz.pinned) (s := Rows.flowCrossingsSpec) (c := Rows.flowCrossingsRow) 4 Tryz.f4 rfl rfl rfl rfl rfl rfl rfl ⟨rfl, rfl, rfl, rfl, rfl⟩ rfl rfl rfl rfl rfl row4d Tryz.func4 row4a row4b row4c
    (fun os started H enc _ => lift4 os started H enc)
theorem flowCrossings_holds : Rows.FlowCrossingsCardSaid :=
  Claim7.holds_tied_plain_at .later [] [.data, .data, .data] true Rows.flowCrossingsCard.stood.harness true
    row4 (fun _ h => by cases h) (by kernel_rfl) (fun _ h => by cases h) flowCrossings_row_tie rfl ⟨rfl, rfl⟩ (by kernel_rfl) rfl
    (fun f fn hf hfn => by
      obtain rfl : f = 4 := Option.some.inj (row4d.symm.trans hf) |>.symm
      obtain rfl : fn = Tryz.f4 := (Option.some.inj (Tryz.func4.symm.trans hfn)).symm
      exact ⟨by kernel_rfl, fun j t ht => by
        have hm : t ∈ Tryz.f4.params.toList := by simpa using Array.mem_of_getElem? ht
        have hall : (Tryz.f4.params.toList.all fun u => !Tryz.prog.wantsStandIn u) = true := by kernel_rfl
        exact (show Tryz.prog.wantsStandIn t = false by simpa using List.all_eq_true.1 hall t hm)⟩)
    (by kernel_rfl)
#print axioms flowCrossings_holds
end Go.Proofs.YtacaadhlobbemaaGreatDoor
