/- First arrivals, direct waves and factors answer as the reference does, for every cable, fault and list of arrivals that the statement takes; others are passed over. Conditions: the listed tables of the library start as the program's text lays them. -/
import Derived.Test.YtcledkhhecdppaaGreatDoorClose
import Derived.Test.YtcledkhhecdppaaGreatDoorLaw10A
namespace Go.Proofs.YtcledkhhecdppaaGreatDoor
open Go Go.Sx Go.RowKit Go.ChangeShapes
set_option maxRecDepth 100000
theorem lift10 (os : Os) (started : os.Started) (H : Type) (enc : TypeId × Value → H) :
    ReturnsInHanded {} Tryz.checked os 10 .any (fun w args => (Rows.cableFirstsSpec.pre enc Tryz.prog Tryz.f10 [] false w args ∧ laidMetH Tryz.prog laid3 w) ∧ sizedMet enc Tryz.prog Tryz.f10 (OpenSpec.ofChange Rows.cableFirstsSpec) false w args)
      (Rows.cableFirstsSpec.post enc Tryz.prog Tryz.f10 false true false false) := by
  refine returnsInHanded_of_change_and (C := Tryz.checked) (X := fun w _ => laidMetH Tryz.prog laid3 w) (fun _ _ _ hh h => h.of_heap hh) lawOwn started (by kernel_rfl) Tryz.func10
    (ChangeSpec.witness_shaped (enc := enc) (C := Tryz.checked) (os := os) (X := fun w _ => laidMetH Tryz.prog laid3 w) false (World.doorLaid Tryz.prog 400 os) #[.agg #[.slice none 0 0, .slice none 0 0, .int .i64 0, .int .i64 0], .agg #[.int .i64 0, .int .i64 0, .int .i64 0, .int .i64 0], .slice none 0 0] 8 rfl (World.shaped_of_RefB (by kernel_rfl) (by kernel_rfl)) (by kernel_rfl) (by kernel_rfl) (by kernel_rfl) (lawDoor os _)) ?_
  intro W base args ds gs before hval hW _ _ hL _
  refine law_calls (tb := 4) ok10 (fun x h => ?_) lawOut (by kernel_rfl) (by kernel_rfl) (by kernel_rfl) Tryz.underlying4 rfl (fun ds hl => ?_) (lawTab hL) hval hW
  · exact h.2.2.1.1
  · match ds, hl with
    | [_, _, _], _ => rfl
theorem row10k10 : (Rows.cableFirstsRow.inPlace == Tryz.prog.inPlace 10) = true := by kernel_rfl
theorem row10k11 : (Rows.cableFirstsRow.unfollowed == Tryz.prog.unfollowed 10) = true := by kernel_rfl
theorem row10k12 : (Rows.cableFirstsRow.recurses == Tryz.prog.recurses 10) = true := by kernel_rfl
theorem row10k13 : (Rows.cableFirstsRow.named == Tryz.prog.varsNamed 10) = true := by kernel_rfl
theorem row10k5 : namedTie Tryz.prog Rows.cableFirstsRow.named Rows.cableFirstsSpec.vars = true := by kernel_rfl
theorem row10k22 : (Rows.cableFirstsRow.plainKeys == Tryz.prog.plainKeys) = true := by kernel_rfl
theorem row10k24b : (Rows.cableFirstsRow.lifted == Tryz.prog.liftsFinal) = true := by kernel_rfl
theorem row10k24c : (Tryz.prog.make == some Rows.cableFirstsRow.make) = true := by kernel_rfl
theorem row10a : joinedFacts Tryz.prog 10 Tryz.f10 Rows.cableFirstsSpec Rows.cableFirstsRow = true := by
  simp only [joinedFacts, Bool.and_eq_true]
  refine ⟨⟨⟨⟨⟨⟨⟨⟨⟨⟨⟨⟨⟨⟨⟨⟨⟨⟨⟨⟨⟨⟨⟨⟨⟨⟨⟨⟨⟨⟨⟨?_, ?_⟩, ?_⟩, ?_⟩, ?_⟩, ?_⟩, ?_⟩, ?_⟩, ?_⟩, ?_⟩, ?_⟩, ?_⟩, ?_⟩, ?_⟩, ?_⟩, ?_⟩, ?_⟩, ?_⟩, ?_⟩, ?_⟩, ?_⟩, ?_⟩, ?_⟩, ?_⟩, ?_⟩, ?_⟩, ?_⟩, ?_⟩, ?_⟩, ?_⟩, ?_⟩, ?_⟩
  · kernel_rfl
  · exact lawOut
  · exact law3
  · kernel_rfl
  · exact row10k5
  · kernel_rfl
  · exact law7
  · kernel_rfl
  · exact law9
  · exact row10k10
  · exact row10k11
  · exact row10k12
  · exact row10k13
  · kernel_rfl
  · kernel_rfl
  · kernel_rfl
  · kernel_rfl
  · kernel_rfl
  · kernel_rfl
  · kernel_rfl
  · kernel_rfl
  · kernel_rfl
  · exact row10k22
  · kernel_rfl
  · exact law23b
  · exact law24
  · exact row10k24b
  · exact row10k24c
  · kernel_rfl
  · kernel_rfl
  · kernel_rfl
  · kernel_rfl
theorem row10b : Tryz.f10.isInstance Tryz.prog Rows.cableFirstsRow.origin Rows.cableFirstsRow.targs := of_decide_eq_true (by kernel_rfl)
theorem row10c : Tryz.f10.isWrapper Tryz.prog Rows.cableFirstsRow.wrapper Rows.cableFirstsRow.mainSum := by unfold Func.isWrapper; rw [if_neg (of_decide_eq_false (by kernel_rfl))]; exact ⟨rfl, rfl⟩
theorem row10d : Tryz.pinned.checked.prog.funcNamed Rows.cableFirstsRow.func = some 10 := by kernel_rfl
theorem row10 : Rows.CableFirstsSaid :=
  OpenClaim.holds_of_wide (p := Tryz.pinned) (s := Rows.cableFirstsSpec) (c := Rows.cableFirstsRow) 10 Tryz.f10 rfl rfl rfl rfl rfl rfl rfl ⟨rfl, rfl, rfl, rfl, rfl⟩ rfl rfl rfl rfl rfl row10d Tryz.func10 row10a row10b row10c
    (fun os started H enc _ => lift10 os started H enc)
theorem cableFirsts_holds : Rows.CableFirstsCardSaid :=
  Claim7.holds_tied_plain_at .later [] [.data, .data, .data] true Rows.cableFirstsCard.stood.harness true
    row10 (fun _ h => by cases h) (by kernel_rfl) (fun _ h => by cases h) cableFirsts_row_tie rfl ⟨rfl, rfl⟩ (by kernel_rfl) rfl
    (fun f fn hf hfn => by
      obtain rfl : f = 10 := Option.some.inj (row10d.symm.trans hf) |>.symm
      obtain rfl : fn = Tryz.f10 := (Option.some.inj (Tryz.func10.symm.trans hfn)).symm
      exact ⟨by kernel_rfl, fun j t ht => by
        have hm : t ∈ Tryz.f10.params.toList := by simpa using Array.mem_of_getElem? ht
        have hall : (Tryz.f10.params.toList.all fun u => !Tryz.prog.wantsStandIn u) = true := by kernel_rfl
        exact (show Tryz.prog.wantsStandIn t = false by simpa using List.all_eq_true.1 hall t hm)⟩)
    (by kernel_rfl)
#print axioms cableFirsts_holds
end Go.Proofs.YtcledkhhecdppaaGreatDoor
