/- The ramps to orders answer as the reference does, for all rules and orders that the statement takes; others are passed over. Conditions: the listed tables of the library start as the program's text lays them. -/
import Derived.Test.YtacaadhlobbemaaGreatDoorClose
import Derived.Test.YtacaadhlobbemaaGreatDoorLaw7A
namespace Go.Proofs.YtacaadhlobbemaaGreatDoor
open Go Go.Sx Go.RowKit Go.ChangeShapes
set_option maxRecDepth 100000
theorem lift7 (os : Os) (started : os.Started) (H : Type) (enc : TypeId × Value → H) :
    ReturnsInHanded {} Tryz.checked os 7 .any (fun w args => (Rows.flowRampsSpec.pre enc Tryz.prog Tryz.f7 [] false w args ∧ laidMetH Tryz.prog laid3 w) ∧ sizedMet enc Tryz.prog Tryz.f7 (OpenSpec.ofChange Rows.flowRampsSpec) false w args)
      (Rows.flowRampsSpec.post enc Tryz.prog Tryz.f7 false true false false) := by
  refine returnsInHanded_of_change_and (C := Tryz.checked) (X := fun w _ => laidMetH Tryz.prog laid3 w) (fun _ _ _ hh h => h.of_heap hh) lawOwn started (by kernel_rfl) Tryz.func7
    (ChangeSpec.witness_shaped (enc := enc) (C := Tryz.checked) (os := os) (X := fun w _ => laidMetH Tryz.prog laid3 w) false (World.doorLaid Tryz.prog 400 os) #[.agg #[.int .i64 0, .int .i64 0, .int .i64 0], .agg #[.int .i64 0, .int .i64 0, .int .i64 0], .slice none 0 0] 8 rfl (World.shaped_of_RefB (by kernel_rfl) (by kernel_rfl)) (by kernel_rfl) (by kernel_rfl) (by kernel_rfl) (lawDoor os _)) ?_
  intro W base args ds gs before hval hW _ _ hL _
  refine law_calls (tb := 4) ok7 (fun x h => ?_) lawOut (by kernel_rfl) (by kernel_rfl) (by kernel_rfl) Tryz.underlying4 rfl (fun ds hl => ?_) (lawTab hL) hval hW
  · trivial
  · match ds, hl with
    | [_, _, _], _ => rfl
theorem row7a : joinedFacts Tryz.prog 7 Tryz.f7 Rows.flowRampsSpec Rows.flowRampsRow = true := by kernel_rfl
theorem row7b : Tryz.f7.isInstance Tryz.prog Rows.flowRampsRow.origin Rows.flowRampsRow.targs := of_decide_eq_true (by kernel_rfl)
theorem row7c : Tryz.f7.isWrapper Tryz.prog Rows.flowRampsRow.wrapper Rows.flowRampsRow.mainSum := by unfold Func.isWrapper; rw [if_neg (of_decide_eq_false (by kernel_rfl))]; exact ⟨rfl, rfl⟩
theorem row7d : Tryz.pinned.checked.prog.funcNamed Rows.flowRampsRow.func = some 7 := by kernel_rfl
theorem row7 : Rows.FlowRampsSaid :=
  OpenClaim.holds_of_wide (p := Tryz.pinned) (s := Rows.flowRampsSpec) (c := Rows.flowRampsRow) 7 Tryz.f7 rfl rfl rfl rfl rfl rfl rfl ⟨rfl, rfl, rfl, rfl, rfl⟩ rfl rfl rfl rfl rfl row7d Tryz.func7 row7a row7b row7c
    (fun os started H enc _ => lift7 os started H enc)
theorem flowRamps_holds : Rows.FlowRampsCardSaid :=
  Claim7.holds_tied_plain_at .later [] [.data, .data, .data] true Rows.flowRampsCard.stood.harness true
    row7 (fun _ h => by cases h) (by kernel_rfl) (fun _ h => by cases h) flowRamps_row_tie rfl ⟨rfl, rfl⟩ (by kernel_rfl) rfl
    (fun f fn hf hfn => by
      obtain rfl : f = 7 := Option.some.inj (row7d.symm.trans hf) |>.symm
      obtain rfl : fn = Tryz.f7 := (Option.some.inj (Tryz.func7.symm.trans hfn)).symm
      exact ⟨by kernel_rfl, fun j t ht => by
        have hm : t ∈ Tryz.f7.params.toList := by simpa using Array.mem_of_getElem? ht
        have hall : (Tryz.f7.params.toList.all fun u => !Tryz.prog.wantsStandIn u) = true := by kernel_rfl
        exact (show Tryz.prog.wantsStandIn t = false by simpa using List.all_eq_true.1 hall t hm)⟩)
    (by kernel_rfl)
#print axioms flowRamps_holds
end Go.Proofs.YtacaadhlobbemaaGreatDoor
