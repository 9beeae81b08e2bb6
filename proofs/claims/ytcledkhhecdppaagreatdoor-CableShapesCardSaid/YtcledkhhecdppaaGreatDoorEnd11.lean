/- Checks, lengths, places, reversed and split cables answer as the reference does, for every cable whose lists the statement takes, every tick and split; others are passed over. Conditions: the listed tables of the library start as the program's text lays them. -/
import Derived.Test.YtcledkhhecdppaaGreatDoorClose
import Derived.Test.YtcledkhhecdppaaGreatDoorLaw11A
namespace Go.Proofs.YtcledkhhecdppaaGreatDoor
open Go Go.Sx Go.RowKit Go.ChangeShapes
set_option maxRecDepth 100000
theorem lift11 (os : Os) (started : os.Started) (H : Type) (enc : TypeId × Value → H) :
    ReturnsInHanded {} Tryz.checked os 11 .any (fun w args => (Rows.cableShapesSpec.pre enc Tryz.prog Tryz.f11 [] false w args ∧ laidMetH Tryz.prog laid3 w) ∧ sizedMet enc Tryz.prog Tryz.f11 (OpenSpec.ofChange Rows.cableShapesSpec) false w args)
      (Rows.cableShapesSpec.post enc Tryz.prog Tryz.f11 false true false false) := by
  refine returnsInHanded_of_change_and (C := Tryz.checked) (X := fun w _ => laidMetH Tryz.prog laid3 w) (fun _ _ _ hh h => h.of_heap hh) lawOwn started (by kernel_rfl) Tryz.func11
    (ChangeSpec.witness_shaped (enc := enc) (C := Tryz.checked) (os := os) (X := fun w _ => laidMetH Tryz.prog laid3 w) false (World.doorLaid Tryz.prog 400 os) #[.agg #[.slice none 0 0, .slice none 0 0, .int .i64 0, .int .i64 0], .int .i64 0, .agg #[.int .i64 0, .int .i64 0]] 8 rfl (World.shaped_of_RefB (by kernel_rfl) (by kernel_rfl)) (by kernel_rfl) (by kernel_rfl) (by kernel_rfl) (lawDoor os _)) ?_
  intro W base args ds gs before hval hW _ _ hL _
  refine law_calls (tb := 4) ok11 (fun x h => ?_) lawOut (by kernel_rfl) (by kernel_rfl) (by kernel_rfl) Tryz.underlying4 rfl (fun ds hl => ?_) (lawTab hL) hval hW
  · trivial
  · match ds, hl with
    | [_, _, _], _ => rfl
theorem row11k10 : (Rows.cableShapesRow.inPlace == Tryz.prog.inPlace 11) = true := by kernel_rfl
theorem row11k11 : (Rows.cableShapesRow.unfollowed == Tryz.prog.unfollowed 11) = true := by kernel_rfl
theorem row11k12 : (Rows.cableShapesRow.recurses == Tryz.prog.recurses 11) = true := by kernel_rfl
theorem row11k13 : (Rows.cableShapesRow.named == Tryz.prog.varsNamed 11) = true := by kernel_rfl
theorem row11k5 : namedTie Tryz.prog Rows.cableShapesRow.named Rows.cableShapesSpec.vars = true := by kernel_rfl
theorem row11k22 : (Rows.cableShapesRow.plainKeys == Tryz.prog.plainKeys) = true := by kernel_rfl
theorem row11k24b : (Rows.cableShapesRow.lifted == Tryz.prog.liftsFinal) = true := by kernel_rfl
theorem row11k24c : (Tryz.prog.make == some Rows.cableShapesRow.make) = true := by kernel_rfl
theorem row11a : joinedFacts Tryz.prog 11 Tryz.f11 Rows.cableShapesSpec Rows.cableShapesRow = true := by
  simp only [joinedFacts, Bool.and_eq_true]
  refine ⟨⟨⟨⟨⟨⟨⟨⟨⟨⟨⟨⟨⟨⟨⟨⟨⟨⟨⟨⟨⟨⟨⟨⟨⟨⟨⟨⟨⟨⟨⟨?_, ?_⟩, ?_⟩, ?_⟩, ?_⟩, ?_⟩, ?_⟩, ?_⟩, ?_⟩, ?_⟩, ?_⟩, ?_⟩, ?_⟩, ?_⟩, ?_⟩, ?_⟩, ?_⟩, ?_⟩, ?_⟩, ?_⟩, ?_⟩, ?_⟩, ?_⟩, ?_⟩, ?_⟩, ?_⟩, ?_⟩, ?_⟩, ?_⟩, ?_⟩, ?_⟩, ?_⟩
  · kernel_rfl
  · exact lawOut
  · exact law3
  · kernel_rfl
  · exact row11k5
  · kernel_rfl
  · exact law7
  · kernel_rfl
  · exact law9
  · exact row11k10
  · exact row11k11
  · exact row11k12
  · exact row11k13
  · kernel_rfl
  · kernel_rfl
  · kernel_rfl
  · kernel_rfl
  · kernel_rfl
  · kernel_rfl
  · kernel_rfl
  · kernel_rfl
  · kernel_rfl
  · exact row11k22
  · kernel_rfl
  · exact law23b
  · exact law24
  · exact row11k24b
  · exact row11k24c
  · kernel_rfl
  · kernel_rfl
  · kernel_rfl
  · kernel_rfl
theorem row11b : Tryz.f11.isInstance Tryz.prog Rows.cableShapesRow.origin Rows.cableShapesRow.targs := of_decide_eq_true (by kernel_rfl)
theorem row11c : Tryz.f11.isWrapper Tryz.prog Rows.cableShapesRow.wrapper Rows.cableShapesRow.mainSum := by unfold Func.isWrapper; rw [if_neg (of_decide_eq_false (by kernel_rfl))]; exact ⟨rfl, rfl⟩
theorem row11d : Tryz.pinned.checked.prog.funcNamed Rows.cableShapesRow.func = some 11 := by kernel_rfl
theorem row11 : Rows.CableShapesSaid :=
  OpenClaim.holds_of_wide (p := Tryz.pinned) (s := Rows.cableShapesSpec) (c := Rows.cableShapesRow) 11 Tryz.f11 rfl rfl rfl rfl rfl rfl rfl ⟨rfl, rfl, rfl, rfl, rfl⟩ rfl rfl rfl rfl rfl row11d Tryz.func11 row11a row11b row11c
    (fun os started H enc _ => lift11 os started H enc)
theorem cableShapes_holds : Rows.CableShapesCardSaid :=
  Claim7.holds_tied_plain_at .later [] [.data, .data, .data] true Rows.cableShapesCard.stood.harness true
    row11 (fun _ h => by cases h) (by kernel_rfl) (fun _ h => by cases h) cableShapes_row_tie rfl ⟨rfl, rfl⟩ (by kernel_rfl) rfl
    (fun f fn hf hfn => by
      obtain rfl : f = 11 := Option.some.inj (row11d.symm.trans hf) |>.symm
      obtain rfl : fn = Tryz.f11 := (Option.some.inj (Tryz.func11.symm.trans hfn)).symm
      exact ⟨by kernel_rfl, fun j t ht => by
        have hm : t ∈ Tryz.f11.params.toList := by simpa using Array.mem_of_getElem? ht
        have hall : (Tryz.f11.params.toList.all fun u => !Tryz.prog.wantsStandIn u) = true := by kernel_rfl
        exact (show Tryz.prog.wantsStandIn t = false by simpa using List.all_eq_true.1 hall t hm)⟩)
    (by kernel_rfl)
#print axioms cableShapes_holds
end Go.Proofs.YtcledkhhecdppaaGreatDoor
