/- Thresholds of a zone and trips answer as the reference does, for every cable, zone and list of arrivals that the statement takes; others are passed over. Conditions: the listed tables of the library start as the program's text lays them. -/
import Derived.Test.YtcledkhhecdppaaGreatDoorClose
import Derived.Test.YtcledkhhecdppaaGreatDoorLaw9A
namespace Go.Proofs.YtcledkhhecdppaaGreatDoor
open Go Go.Sx Go.RowKit Go.ChangeShapes
set_option maxRecDepth 100000
theorem lift9 (os : Os) (started : os.Started) (H : Type) (enc : TypeId × Value → H) :
    ReturnsInHanded {} Tryz.checked os 9 .any (fun w args => (Rows.cableZonesSpec.pre enc Tryz.prog Tryz.f9 [] false w args ∧ laidMetH Tryz.prog laid3 w) ∧ sizedMet enc Tryz.prog Tryz.f9 (OpenSpec.ofChange Rows.cableZonesSpec) false w args)
      (Rows.cableZonesSpec.post enc Tryz.prog Tryz.f9 false true false false) := by
  refine returnsInHanded_of_change_and (C := Tryz.checked) (X := fun w _ => laidMetH Tryz.prog laid3 w) (fun _ _ _ hh h => h.of_heap hh) lawOwn started (by kernel_rfl) Tryz.func9
    (ChangeSpec.witness_shaped (enc := enc) (C := Tryz.checked) (os := os) (X := fun w _ => laidMetH Tryz.prog laid3 w) false (World.doorLaid Tryz.prog 400 os) #[.agg #[.slice none 0 0, .slice none 0 0, .int .i64 0, .int .i64 0], .agg #[.int .i64 0, .int .i64 0, .int .i64 0, .int .i64 0, .string ⟨#[]⟩], .slice none 0 0] 8 rfl (World.shaped_of_RefB (by kernel_rfl) (by kernel_rfl)) (by kernel_rfl) (by kernel_rfl) (by kernel_rfl) (lawDoor os _)) ?_
  intro W base args ds gs before hval hW _ _ hL _
  refine law_calls (tb := 4) ok9 (fun x h => ?_) lawOut (by kernel_rfl) (by kernel_rfl) (by kernel_rfl) Tryz.underlying4 rfl (fun ds hl => ?_) (lawTab hL) hval hW
  · exact h.2.2.1.1
  · match ds, hl with
    | [_, _, _], _ => rfl
theorem row9k10 : (Rows.cableZonesRow.inPlace == Tryz.prog.inPlace 9) = true := by kernel_rfl
theorem row9k11 : (Rows.cableZonesRow.unfollowed == Tryz.prog.unfollowed 9) = true := by kernel_rfl
theorem row9k12 : (Rows.cableZonesRow.recurses == Tryz.prog.recurses 9) = true := by kernel_rfl
theorem row9k13 : (Rows.cableZonesRow.named == Tryz.prog.varsNamed 9) = true := by kernel_rfl
theorem row9k5 : namedTie Tryz.prog Rows.cableZonesRow.named Rows.cableZonesSpec.vars = true := by kernel_rfl
theorem row9k22 : (Rows.cableZonesRow.plainKeys == Tryz.prog.plainKeys) = true := by kernel_rfl
theorem row9k24b : (Rows.cableZonesRow.lifted == Tryz.prog.liftsFinal) = true := by kernel_rfl
theorem row9k24c : (Tryz.prog.make == some Rows.cableZonesRow.make) = true := by kernel_rfl
theorem row9a : joinedFacts Tryz.prog 9 Tryz.f9 Rows.cableZonesSpec Rows.cableZonesRow = true := by
  simp only [joinedFacts, Bool.and_eq_true]
  refine ⟨⟨⟨⟨⟨⟨⟨⟨⟨⟨⟨⟨⟨⟨⟨⟨⟨⟨⟨⟨⟨⟨⟨⟨⟨⟨⟨⟨⟨⟨⟨?_, ?_⟩, ?_⟩, ?_⟩, ?_⟩, ?_⟩, ?_⟩, ?_⟩, ?_⟩, ?_⟩, ?_⟩, ?_⟩, ?_⟩, ?_⟩, ?_⟩, ?_⟩, ?_⟩, ?_⟩, ?_⟩, ?_⟩, ?_⟩, ?_⟩, ?_⟩, ?_⟩, ?_⟩, ?_⟩, ?_⟩, ?_⟩, ?_⟩, ?_⟩, ?_⟩, ?_⟩
  · kernel_rfl
  · exact lawOut
  · exact law3
  · kernel_rfl
  · exact row9k5
  · kernel_rfl
  · exact law7
  · kernel_rfl
  · exact law9
  · exact row9k10
  · exact row9k11
  · exact row9k12
  · exact row9k13
  · kernel_rfl
  · kernel_rfl
  · kernel_rfl
  · kernel_rfl
  · kernel_rfl
  · kernel_rfl
  · kernel_rfl
  · kernel_rfl
  · kernel_rfl
  · exact row9k22
  · kernel_rfl
  · exact law23b
  · exact law24
  · exact row9k24b
  · exact row9k24c
  · kernel_rfl
  · kernel_rfl
  · kernel_rfl
  · kernel_rfl
theorem row9b : Tryz.f9.isInstance Tryz.prog Rows.cableZonesRow.origin Rows.cableZonesRow.targs := of_decide_eq_true (by kernel_rfl)
theorem row9c : Tryz.f9.isWrapper Tryz.prog Rows.cableZonesRow.wrapper Rows.cableZonesRow.mainSum := by unfold Func.isWrapper; rw [if_neg (of_decide_eq_false (by kernel_rfl))]; exact ⟨rfl, rfl⟩
theorem row9d : Tryz.pinned.checked.prog.funcNamed Rows.cableZonesRow.func = some 9 := by kernel_rfl
theorem row9 : Rows.CableZonesSaid :=
  OpenClaim.holds_of_wide (p := Tryz.pinned) (s := Rows.cableZonesSpec) (c := Rows.cableZonesRow) 9 Tryz.f9 rfl rfl rfl rfl rfl rfl rfl ⟨rfl, rfl, rfl, rfl, rfl⟩ rfl rfl rfl rfl rfl row9d Tryz.func9 row9a row9b row9c
    (fun os started H enc _ => lift9 os started H enc)
theorem cableZones_holds : Rows.CableZonesCardSaid :=
  Claim7.holds_tied_plain_at .later [] [.data, .data, .data] true Rows.cableZonesCard.stood.harness true
    row9 (fun _ h => by cases h) (by kernel_rfl) (fun _ h => by cases h) cableZones_row_tie rfl ⟨rfl, rfl⟩ (by kernel_rfl) rfl
    (fun f fn hf hfn => by
      obtain rfl : f = 9 := Option.some.inj (row9d.symm.trans hf) |>.symm
      obtain rfl : fn = Tryz.f9 := (Option.some.inj (Tryz.func9.symm.trans hfn)).symm
      exact ⟨by kernel_rfl, fun j t ht => by
        have hm : t ∈ Tryz.f9.params.toList := by simpa using Array.mem_of_getElem? ht
        have hall : (Tryz.f9.params.toList.all fun u => !Tryz.prog.wantsStandIn u) = true := by kernel_rfl
        exact (show Tryz.prog.wantsStandIn t = false by simpa using List.all_eq_true.1 hall t hm)⟩)
    (by kernel_rfl)
#print axioms cableZones_holds
end Go.Proofs.YtcledkhhecdppaaGreatDoor
