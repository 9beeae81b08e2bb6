/- The three functions on a line of points answer as the reference does, for every line of at most 10 points, every voltage and every amount; longer lines are passed over. Conditions: the listed tables of the library start as the program's text lays them. -/
import Derived.Test.YtacaadhlobbemaaGreatDoorClose
import Derived.Test.YtacaadhlobbemaaGreatDoorLaw3A
namespace Go.Proofs.YtacaadhlobbemaaGreatDoor
open Go Go.Sx Go.RowKit Go.ChangeShapes
set_option maxRecDepth 100000
theorem lift3 (os : Os) (started : os.Started) (H : Type) (enc : TypeId × Value → H) :
    ReturnsInHanded {} Tryz.checked os 3 .any (fun w args => (Rows.flowLinesSpec.pre enc Tryz.prog Tryz.f3 [] false w args ∧ laidMetH Tryz.prog laid3 w) ∧ sizedMet enc Tryz.prog Tryz.f3 (OpenSpec.ofChange Rows.flowLinesSpec) false w args)
      (Rows.flowLinesSpec.post enc Tryz.prog Tryz.f3 false true false false) := by
  refine returnsInHanded_of_change_and (C := Tryz.checked) (X := fun w _ => laidMetH Tryz.prog laid3 w) (fun _ _ _ hh h => h.of_heap hh) lawOwn started (by kernel_rfl) Tryz.func3
    (ChangeSpec.witness_shaped (enc := enc) (C := Tryz.checked) (os := os) (X := fun w _ => laidMetH Tryz.prog laid3 w) false (World.doorLaid Tryz.prog 400 os) #[.slice none 0 0, .int .i64 0, .int .i64 0] 8 rfl (World.shaped_of_RefB (by kernel_rfl) (by kernel_rfl)) (by kernel_rfl) (by kernel_rfl) (by kernel_rfl) (lawDoor os _)) ?_
  intro W base args ds gs before hval hW _ _ hL _
  refine law_calls (tb := 4) ok3 (fun x h => ?_) lawOut (by kernel_rfl) (by kernel_rfl) (by kernel_rfl) Tryz.underlying4 rfl (fun ds hl => ?_) (lawTab hL) hval hW
  · exact h.1.1
  · match ds, hl with
    | [_, _, _], _ => rfl
theorem row3a : joinedFacts Tryz.prog 3 Tryz.f3 Rows.flowLinesSpec Rows.flowLinesRow = true := by kernel_rfl
theorem row3b : Tryz.f3.isInstance Tryz.prog Rows.flowLinesRow.origin Rows.flowLinesRow.targs := of_decide_eq_true (by kernel_rfl)
theorem row3c : Tryz.f3.isWrapper Tryz.prog Rows.flowLinesRow.wrapper Rows.flowLinesRow.mainSum := by unfold Func.isWrapper; rw [if_neg (of_decide_eq_false (by kernel_rfl))]; exact ⟨rfl, rfl⟩
theorem row3d : Tryz.pinned.checked.prog.funcNamed Rows.flowLinesRow.func = some 3 := by kernel_rfl
theorem row3 : Rows.FlowLinesSaid :=
  OpenClaim.holds_of_wide (p := Tryz.pinned) (s := Rows.flowLinesSpec) (c := Rows.flowLinesRow) 3 Tryz.f3 rfl rfl rfl rfl rfl rfl rfl ⟨rfl, rfl, rfl, rfl, rfl⟩ rfl rfl rfl rfl rfl row3d Tryz.func3 row3a row3b row3c
    (fun os started H enc _ => lift3 os started H enc)
theorem flowLines_holds : Rows.FlowLinesCardSaid :=
  Claim7.holds_tied_plain_at .later [] [.data, .data, .data] true Rows.flowLinesCard.stood.harness true
    row3 (fun _ h => by cases h) (by kernel_rfl) (fun _ h => by cases h) flowLines_row_tie rfl ⟨rfl, rfl⟩ (by kernel_rfl) rfl
    (fun f fn hf hfn => by
      obtain rfl : f = 3 := Option.some.inj (row3d.symm.trans hf) |>.symm
      obtain rfl : fn = Tryz.f3 := (Option.some.inj (Tryz.func3.symm.trans hfn)).symm
      exact ⟨by kernel_rfl, fun j t ht => by
        have hm : t ∈ Tryz.f3.params.toList := by simpa using Array.mem_of_getElem? ht
        have hall : (Tryz.f3.params.toList.all fun u => !Tryz.prog.wantsStandIn u) = true := by kernel_rfl
        exact (show Tryz.prog.wantsStandIn t = false by simpa using List.all_eq_true.1 hall t hm)⟩)
    (by kernel_rfl)
#print axioms flowLines_holds
end Go.Proofs.YtacaadhlobbemaaGreatDoor
