/- The places of a fault located by two intervals answer as the reference does, for every cable whose lists the statement takes and every two intervals; others are passed over. Conditions: the listed tables of the library start as the program's text lays them. -/
import Derived.Test.YtcledkhhecdppaaGreatDoorClose
import Derived.Test.YtcledkhhecdppaaGreatDoorLaw4A
namespace Go.Proofs.YtcledkhhecdppaaGreatDoor
open Go Go.Sx Go.RowKit Go.ChangeShapes
set_option maxRecDepth 100000
theorem lift4 (os : Os) (started : os.Started) (H : Type) (enc : TypeId × Value → H) :
    ReturnsInHanded {} Tryz.checked os 4 .any (fun w args => (Rows.cableLocatesSpec.pre enc Tryz.prog Tryz.f4 [] false w args ∧ laidMetH Tryz.prog laid3 w) ∧ sizedMet enc Tryz.prog Tryz.f4 (OpenSpec.ofChange Rows.cableLocatesSpec) false w args)
      (Rows.cableLocatesSpec.post enc Tryz.prog Tryz.f4 false true false false) := by
  refine returnsInHanded_of_change_and (C := Tryz.checked) (X := fun w _ => laidMetH Tryz.prog laid3 w) (fun _ _ _ hh h => h.of_heap hh) lawOwn started (by kernel_rfl) Tryz.func4
    (ChangeSpec.witness_shaped (enc := enc) (C := Tryz.checked) (os := os) (X := fun w _ => laidMetH Tryz.prog laid3 w) false (World.doorLaid Tryz.prog 400 os) #[.agg #[.slice none 0 0, .slice none 0 0, .int .i64 0, .int .i64 0], .agg #[.int .i64 0, .int .i64 0], .agg #[.int .i64 0, .int .i64 0]] 8 rfl (World.shaped_of_RefB (by kernel_rfl) (by kernel_rfl)) (by kernel_rfl) (by kernel_rfl) (by kernel_rfl) (lawDoor os _)) ?_
  intro W base args ds gs before hval hW _ _ hL _
  refine law_calls (tb := 4) ok4 (fun x h => ?_) lawOut (by kernel_rfl) (by kernel_rfl) (by kernel_rfl) Tryz.underlying4 rfl (fun ds hl => ?_) (lawTab hL) hval hW
  · trivial
  · match ds, hl with
    | [_, _, _], _ => rfl
theorem row4k10 : (Rows.cableLocatesRow.inPlace == Tryz.prog.inPlace 4) = true := by kernel_rfl
theorem row4k11 : (Rows.cableLocatesRow.unfollowed == Tryz.prog.unfollowed 4) = true := by kernel_rfl
theorem row4k12 : (Rows.cableLocatesRow.recurses == Tryz.prog.recurses 4) = true := by kernel_rfl
theorem row4k13 : (Rows.cableLocatesRow.named == Tryz.prog.varsNamed 4) = true := by kernel_rfl
theorem row4k5 : namedTie Tryz.prog Rows.cableLocatesRow.named Rows.cableLocatesSpec.vars = true := by kernel_rfl
theorem row4k22 : (Rows.cableLocatesRow.plainKeys == Tryz.prog.plainKeys) = true := by kernel_rfl
theorem row4k24b : (Rows.cableLocatesRow.lifted == Tryz.prog.liftsFinal) = true := by kernel_rfl
theorem row4k24c : (Tryz.prog.make == some Rows.cableLocatesRow.make) = true := by kernel_rfl
theorem row4a : joinedFacts Tryz.prog 4 Tryz.f4 Rows.cableLocatesSpec Rows.cableLocatesRow = true := by
  simp only [joinedFacts, Bool.and_eq_true]
  refine ⟨⟨⟨⟨⟨⟨⟨⟨⟨⟨⟨⟨⟨⟨⟨⟨⟨⟨⟨⟨⟨⟨⟨⟨⟨⟨⟨⟨⟨⟨⟨?_, ?_⟩, ?_⟩, ?_⟩, ?_⟩, ?_⟩, ?_⟩, ?_⟩, ?_⟩, ?_⟩, ?_⟩, ?_⟩, ?_⟩, ?_⟩, ?_⟩, ?_⟩, ?_⟩, ?_⟩, ?_⟩, ?_⟩, ?_⟩, ?_⟩, ?_⟩, ?_⟩, ?_⟩, ?_⟩, ?_⟩, ?_⟩, ?_⟩, ?_⟩, ?_⟩, ?_⟩
  · kernel_rfl
  · exact lawOut
  · exact law3
  · kernel_rfl
  · exact row4k5
  · kernel_rfl
  · exact law7
  · kernel_rfl
  · exact law9
  · exact row4k10
  · exact row4k11
  · exact row4k12
  · exact row4k13
  · kernel_rfl
  · kernel_rfl
  · kernel_rfl
  · kernel_rfl
  · kernel_rfl
  · kernel_rfl
  · kernel_rfl
  · kernel_rfl
  · kernel_rfl
  · exact row4k22
  · kernel_rfl
  · exact law23b
  · exact law24
  · exact row4k24b
  · exact row4k24c
  · kernel_rfl
  · kernel_rfl
  · kernel_rfl
  · kernel_rfl
theorem row4b : Tryz.f4.isInstance Tryz.prog Rows.cableLocatesRow.origin Rows.cableLocatesRow.targs := of_decide_eq_true (by kernel_rfl)
theorem row4c : Tryz.f4.isWrapper Tryz.prog Rows.cableLocatesRow.wrapper Rows.cableLocatesRow.mainSum := by unfold Func.isWrapper; rw [if_neg (of_decide_eq_false (by kernel_rfl))]; exact ⟨rfl, rfl⟩
theorem row4d : Tryz.pinned.checked.prog.funcNamed Rows.cableLocatesRow.func = some 4 := by kernel_rfl
theorem row4 : Rows.CableLocatesSaid :=
  OpenClaim.holds_of_wide (p := Tryz.pinned) (s := Rows.cableLocatesSpec) (c := Rows.cableLocatesRow) 4 Tryz.f4 rfl rfl rfl rfl rfl rfl rfl ⟨rfl, rfl, rfl, rfl, rfl⟩ rfl rfl rfl rfl rfl row4d Tryz.func4 row4a row4b row4c
    (fun os started H enc _ => lift4 os started H enc)
theorem cableLocates_holds : Rows.CableLocatesCardSaid :=
  Claim7.holds_tied_plain_at .later [] [.data, .data, .data] true Rows.cableLocatesCard.stood.harness true
    row4 (fun _ h => by cases h) (by kernel_rfl) (fun _ h => by cases h) cableLocates_row_tie rfl ⟨rfl, rfl⟩ (by kernel_rfl) rfl
    (fun f fn hf hfn => by
      obtain rfl : f = 4 := Option.some.inj (row4d.symm.trans hf) |>.symm
      obtain rfl : fn = Tryz.f4 := (Option.some.inj (Tryz.func4.symm.trans hfn)).symm
      exact ⟨by kernel_rfl, fun j t ht => by
        have hm : t ∈ Tryz.f4.params.toList := by simpa using Array.mem_of_getElem? ht
        have hall : (Tryz.f4.params.toList.all fun u => !Tryz.prog.wantsStandIn u) = true := by kernel_rfl
        exact (show Tryz.prog.wantsStandIn t = false by simpa using List.all_eq_true.1 hall t hm)⟩)
    (by kernel_rfl)
#print axioms cableLocates_holds
end Go.Proofs.YtcledkhhecdppaaGreatDoor
