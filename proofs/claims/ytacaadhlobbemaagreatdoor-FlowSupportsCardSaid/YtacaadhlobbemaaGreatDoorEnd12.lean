/- The supports of deviations answer as the reference does, for every support, every deviation and every list whose length the statement takes; others are passed over. Conditions: the listed tables of the library start as the program's text lays them. -/
import Derived.Test.YtacaadhlobbemaaGreatDoorClose
import Derived.Test.YtacaadhlobbemaaGreatDoorLaw12A
namespace Go.Proofs.YtacaadhlobbemaaGreatDoor
open Go Go.Sx Go.RowKit Go.ChangeShapes
set_option maxRecDepth 100000
theorem lift12 (os : Os) (started : os.Started) (H : Type) (enc : TypeId × Value → H) :
    ReturnsInHanded {} Tryz.checked os 12 .any (fun w args => (Rows.flowSupportsSpec.pre enc Tryz.prog Tryz.f12 [] false w args ∧ laidMetH Tryz.prog laid3 w) ∧ sizedMet enc Tryz.prog Tryz.f12 (OpenSpec.ofChange Rows.flowSupportsSpec) false w args)
      (Rows.flowSupportsSpec.post enc Tryz.prog Tryz.f12 false true false false) := by
  refine returnsInHanded_of_change_and (C := Tryz.checked) (X := fun w _ => laidMetH Tryz.prog laid3 w) (fun _ _ _ hh h => h.of_heap hh) lawOwn started (by kernel_rfl) Tryz.func12
    (ChangeSpec.witness_shaped (enc := enc) (C := Tryz.checked) (os := os) (X := fun w _ => laidMetH Tryz.prog laid3 w) false (World.doorLaid Tryz.prog 400 os) #[.agg #[.int .i64 0, .int .i64 0, .int .i64 0], .int .i64 0, .slice none 0 0] 8 rfl (World.shaped_of_RefB (by kernel_rfl) (by kernel_rfl)) (by kernel_rfl) (by kernel_rfl) (by kernel_rfl) (lawDoor os _)) ?_
  intro W base args ds gs before hval hW _ _ hL _
  refine law_calls (tb := 4) ok12 (fun x h => ?_) lawOut (by kernel_rfl) (by kernel_rfl) (by kernel_rfl) Tryz.underlying4 rfl (fun ds hl => ?_) (lawTab hL) hval hW
  · exact h.2.2.1.1
  · match ds, hl with
    | [_, _, _], _ => rfl
theorem row12a : joinedFacts Tryz.prog 12 Tryz.f12 Rows.flowSupportsSpec Rows.flowSupportsRow = true := by kernel_rfl
theorem row12b : Tryz.f12.isInstance Tryz.prog Rows.flowSupportsRow.origin Rows.flowSupportsRow.targs := of_decide_eq_true (by kernel_rfl)
theorem row12c : Tryz.f12.isWrapper Tryz.prog Rows.flowSupportsRow.wrapper Rows.flowSupportsRow.mainSum := by unfold Func.isWrapper; rw [if_neg (of_decide_eq_false (by kernel_rfl))]; exact ⟨rfl, rfl⟩
theorem row12d : Tryz.pinned.checked.prog.funcNamed Rows.flowSupportsRow.func = some 12 := by kernel_rfl
theorem row12 : Rows.FlowSupportsSaid :=
  OpenClaim.holds_of_wide (p := Tryz.pinned) (s := Rows.flowSupportsSpec) (c := Rows.flowSupportsRow) 12 Tryz.f12 rfl rfl rfl rfl rfl rfl rfl ⟨rfl, rfl, rfl, rfl, rfl⟩ rfl rfl rfl rfl rfl row12d Tryz.func12 row12a row12b row12c
    (fun os started H enc _ => lift12 os started H enc)
theorem flowSupports_holds : Rows.FlowSupportsCardSaid :=
  Claim7.holds_tied_plain_at .later [] [.data, .data, .data] true Rows.flowSupportsCard.stood.harness true
    row12 (fun _ h => by cases h) (by kernel_rfl) (fun _ h => by cases h) flowSupports_row_tie rfl ⟨rfl, rfl⟩ (by kernel_rfl) rfl
    (fun f fn hf hfn => by
      obtain rfl : f = 12 := Option.some.inj (row12d.symm.trans hf) |>.symm
      obtain rfl : fn = Tryz.f12 := (Option.some.inj (Tryz.func12.symm.trans hfn)).symm
      exact ⟨by kernel_rfl, fun j t ht => by
        have hm : t ∈ Tryz.f12.params.toList := by simpa using Array.mem_of_getElem? ht
        have hall : (Tryz.f12.params.toList.all fun u => !Tryz.prog.wantsStandIn u) = true := by kernel_rfl
        exact (show Tryz.prog.wantsStandIn t = false by simpa using List.all_eq_true.1 hall t hm)⟩)
    (by kernel_rfl)
#print axioms flowSupports_holds
end Go.Proofs.YtacaadhlobbemaaGreatDoor
