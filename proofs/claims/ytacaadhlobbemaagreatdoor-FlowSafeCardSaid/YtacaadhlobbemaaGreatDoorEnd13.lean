/- The run of a trip is safe at its end, each of its states leads to the rest, and a support is turned round with its deviation, for every trip, every first state and every three numbers that the statement takes. Conditions: the listed tables of the library start as the program's text lays them. -/
import Derived.Test.YtacaadhlobbemaaGreatDoorClose
import Derived.Test.YtacaadhlobbemaaGreatDoorLaw13A
namespace Go.Proofs.YtacaadhlobbemaaGreatDoor
open Go Go.Sx Go.RowKit Go.ChangeShapes
set_option maxRecDepth 100000
theorem wf16 {n : Int} (h : (Lit.int .u16 n).wf = true) : 0 ≤ n ∧ n ≤ 65535 := by
  simp only [Lit.wf, IntKind.min, IntKind.max, IntKind.signed, IntKind.bits, Bool.and_eq_true, decide_eq_true_eq, Bool.false_eq_true, if_false] at h
  omega
theorem lift13 (os : Os) (started : os.Started) (H : Type) (enc : TypeId × Value → H) :
    ReturnsInHanded {} Tryz.checked os 13 .any (fun w args => (Rows.flowSafeSpec.pre enc Tryz.prog Tryz.f13 [] false w args ∧ laidMetH Tryz.prog laid3 w) ∧ sizedMet enc Tryz.prog Tryz.f13 (OpenSpec.ofChange Rows.flowSafeSpec) false w args)
      (Rows.flowSafeSpec.post enc Tryz.prog Tryz.f13 false true false false) := by
  refine returnsInHanded_of_change_and (C := Tryz.checked) (X := fun w _ => laidMetH Tryz.prog laid3 w) (fun _ _ _ hh h => h.of_heap hh) lawOwn started (by kernel_rfl) Tryz.func13
    (ChangeSpec.witness_shaped (enc := enc) (C := Tryz.checked) (os := os) (X := fun w _ => laidMetH Tryz.prog laid3 w) false (World.doorLaid Tryz.prog 400 os) #[.agg #[.int .i64 0, .int .i64 0, .int .i64 0, .int .i64 0], .agg #[.int .i64 0, .int .i64 0], .agg #[.int .u16 0, .int .u16 0, .int .u16 0]] 8 rfl (World.shaped_of_RefB (by kernel_rfl) (by kernel_rfl)) (by kernel_rfl) (by kernel_rfl) (by kernel_rfl) (lawDoor os _)) ?_
  intro W base args ds gs before hval hW _ _ hL _
  refine law_calls (tb := 4) ok13 (fun x h => ?_) lawOut (by kernel_rfl) (by kernel_rfl) (by kernel_rfl) Tryz.underlying4 rfl (fun ds hl => ?_) (lawTab hL) hval hW
  · exact ⟨wf16 h.2.2.1.1, wf16 h.2.2.1.2.1, wf16 h.2.2.1.2.2⟩
  · match ds, hl with
    | [_, _, _], _ => rfl
theorem row13a : joinedFacts Tryz.prog 13 Tryz.f13 Rows.flowSafeSpec Rows.flowSafeRow = true := by kernel_rfl
theorem row13b : Tryz.f13.isInstance Tryz.prog Rows.flowSafeRow.origin Rows.flowSafeRow.targs := of_decide_eq_true (by kernel_rfl)
theorem row13c : Tryz.f13.isWrapper Tryz.prog Rows.flowSafeRow.wrapper Rows.flowSafeRow.mainSum := by unfold Func.isWrapper; rw [if_neg (of_decide_eq_false (by kernel_rfl))]; exact ⟨rfl, rfl⟩
theorem row13d : Tryz.pinned.checked.prog.funcNamed Rows.flowSafeRow.func = some 13 := by kernel_rfl
theorem row13 : Rows.FlowSafeSaid :=
  OpenClaim.holds_of_wide (p := Tryz.pinned) (s := Rows.flowSafeSpec) (c := Rows.flowSafeRow) 13 Tryz.f13 rfl rfl rfl rfl rfl rfl rfl ⟨rfl, rfl, rfl, rfl, rfl⟩ rfl rfl rfl rfl rfl row13d Tryz.func13 row13a row13b row13c
    (fun os started H enc _ => lift13 os started H enc)
theorem flowSafe_holds : Rows.FlowSafeCardSaid :=
  Claim7.holds_tied_plain_at .later [] [.data, .data, .data] true Rows.flowSafeCard.stood.harness true
    row13 (fun _ h => by cases h) (by kernel_rfl) (fun _ h => by cases h) flowSafe_row_tie rfl ⟨rfl, rfl⟩ (by kernel_rfl) rfl
    (fun f fn hf hfn => by
      obtain rfl : f = 13 := Option.some.inj (row13d.symm.trans hf) |>.symm
      obtain rfl : fn = Tryz.f13 := (Option.some.inj (Tryz.func13.symm.trans hfn)).symm
      exact ⟨by kernel_rfl, fun j t ht => by
        have hm : t ∈ Tryz.f13.params.toList := by simpa using Array.mem_of_getElem? ht
        have hall : (Tryz.f13.params.toList.all fun u => !Tryz.prog.wantsStandIn u) = true := by kernel_rfl
        exact (show Tryz.prog.wantsStandIn t = false by simpa using List.all_eq_true.1 hall t hm)⟩)
    (by kernel_rfl)
#print axioms flowSafe_holds
end Go.Proofs.YtacaadhlobbemaaGreatDoor
