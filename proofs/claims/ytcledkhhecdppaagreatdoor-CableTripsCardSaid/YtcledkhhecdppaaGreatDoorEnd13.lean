/- First arrivals are the direct waves with their factors, and by the thresholds of a zone its end trips for the faults of the zone and for no other: for every cable, fault and zone that the statement takes; others are passed over. Conditions: the listed tables of the library start as the program's text lays them. -/
import Derived.Test.YtcledkhhecdppaaGreatDoorClose
import Derived.Test.YtcledkhhecdppaaGreatDoorLaw13A
namespace Go.Proofs.YtcledkhhecdppaaGreatDoor
open Go Go.Sx Go.RowKit Go.ChangeShapes
set_option maxRecDepth 100000
theorem lift13 (os : Os) (started : os.Started) (H : Type) (enc : TypeId × Value → H) :
    ReturnsInHanded {} Tryz.checked os 13 .any (fun w args => (Rows.cableTripsSpec.pre enc Tryz.prog Tryz.f13 [] false w args ∧ laidMetH Tryz.prog laid3 w) ∧ sizedMet enc Tryz.prog Tryz.f13 (OpenSpec.ofChange Rows.cableTripsSpec) false w args)
      (Rows.cableTripsSpec.post enc Tryz.prog Tryz.f13 false true false false) := by
  refine returnsInHanded_of_change_and (C := Tryz.checked) (X := fun w _ => laidMetH Tryz.prog laid3 w) (fun _ _ _ hh h => h.of_heap hh) lawOwn started (by kernel_rfl) Tryz.func13
    (ChangeSpec.witness_shaped (enc := enc) (C := Tryz.checked) (os := os) (X := fun w _ => laidMetH Tryz.prog laid3 w) false (World.doorLaid Tryz.prog 400 os) #[.agg #[.slice none 0 0, .slice none 0 0, .int .i64 0, .int .i64 0], .agg #[.int .i64 0, .int .i64 0, .int .i64 0, .int .i64 0], .agg #[.int .i64 0, .int .i64 0, .int .i64 0, .int .i64 0, .string ⟨#[]⟩]] 8 rfl (World.shaped_of_RefB (by kernel_rfl) (by kernel_rfl)) (by kernel_rfl) (by kernel_rfl) (by kernel_rfl) (lawDoor os _)) ?_
  intro W base args ds gs before hval hW _ _ hL _
  refine law_calls (tb := 4) ok13 (fun x h => ?_) lawOut (by kernel_rfl) (by kernel_rfl) (by kernel_rfl) Tryz.underlying4 rfl (fun ds hl => ?_) (lawTab hL) hval hW
  · trivial
  · match ds, hl with
    | [_, _, _], _ => rfl
theorem row13k10 : (Rows.cableTripsRow.inPlace == Tryz.prog.inPlace 13) = true := by kernel_rfl
theorem row13k11 : (Rows.cableTripsRow.unfollowed == Tryz.prog.unfollowed 13) = true := by kernel_rfl
theorem row13k12 : (Rows.cableTripsRow.recurses == Tryz.prog.recurses 13) = true := by kernel_rfl
theorem row13k13 : (Rows.cableTripsRow.named == Tryz.prog.varsNamed 13) = true := by kernel_rfl
theorem row13k5 : namedTie Tryz.prog Rows.cableTripsRow.named Rows.cableTripsSpec.vars = true := by kernel_rfl
theorem row13k22 : (Rows.cableTripsRow.plainKeys == Tryz.prog.plainKeys) = true := by kernel_rfl
theorem row13k24b : (Rows.cableTripsRow.lifted == Tryz.prog.liftsFinal) = true := by kernel_rfl
theorem row13k24c : (Tryz.prog.make == some Rows.cableTripsRow.make) = true := by kernel_rfl
theorem row13a : joinedFacts Tryz.prog 13 Tryz.f13 Rows.cableTripsSpec Rows.cableTripsRow = true := by
  simp only [joinedFacts, Bool.and_eq_true]
  refine ⟨⟨⟨⟨⟨⟨⟨⟨⟨⟨⟨⟨⟨⟨⟨⟨⟨⟨⟨⟨⟨⟨⟨⟨⟨⟨⟨⟨⟨⟨⟨?_, ?_⟩, ?_⟩, ?_⟩, ?_⟩, ?_⟩, ?_⟩, ?_⟩, ?_⟩, ?_⟩, ?_⟩, ?_⟩, ?_⟩, ?_⟩, ?_⟩, ?_⟩, ?_⟩, ?_⟩, ?_⟩, ?_⟩, ?_⟩, ?_⟩, ?_⟩, ?_⟩, ?_⟩, ?_⟩, ?_⟩, ?_⟩, ?_⟩, ?_⟩, ?_⟩, ?_⟩
  · kernel_rfl
  · exact lawOut
  · exact law3
  · kernel_rfl
  · exact row13k5
  · kernel_rfl
  · exact law7
  · kernel_rfl
  · exact law9
  · exact row13k10
  · exact row13k11
  · exact row13k12
  · exact row13k13
  · kernel_rfl
  · kernel_rfl
  · kernel_rfl
  · kernel_rfl
  · kernel_rfl
  · kernel_rfl
  · kernel_rfl
  · kernel_rfl
  · kernel_rfl
  · exact row13k22
  · kernel_rfl
  · exact law23b
  · exact law24
  · exact row13k24b
  · exact row13k24c
  · kernel_rfl
  · kernel_rfl
  · kernel_rfl
  · kernel_rfl
theorem row13b : Tryz.f13.isInstance Tryz.prog Rows.cableTripsRow.origin Rows.cableTripsRow.targs := of_decide_eq_true (by kernel_rfl)
theorem row13c : Tryz.f13.isWrapper Tryz.prog Rows.cableTripsRow.wrapper Rows.cableTripsRow.mainSum := by unfold Func.isWrapper; rw [if_neg (of_decide_eq_false (by kernel_rfl))]; exact ⟨rfl, rfl⟩
theorem row13d : Tryz.pinned.checked.prog.funcNamed Rows.cableTripsRow.func = some 13 := by kernel_rfl
theorem row13 : Rows.CableTripsSaid :=
  OpenClaim.holds_of_wide (p := Tryz.pinned) (s := Rows.cableTripsSpec) (c := Rows.cableTripsRow) 13 Tryz.f13 rfl rfl rfl rfl rfl rfl rfl ⟨rfl, rfl, rfl, rfl, rfl⟩ rfl rfl rfl rfl rfl row13d Tryz.func13 row13a row13b row13c
    (fun os started H enc _ => lift13 os started H enc)
theorem cableTrips_holds : Rows.CableTripsCardSaid :=
  Claim7.holds_tied_plain_at .later [] [.data, .data, .data] true Rows.cableTripsCard.stood.harness true
    row13 (fun _ h => by cases h) (by kernel_rfl) (fun _ h => by cases h) cableTrips_row_tie rfl ⟨rfl, rfl⟩ (by kernel_rfl) rfl
    (fun f fn hf hfn => by
      obtain rfl : f = 13 := Option.some.inj (row13d.symm.trans hf) |>.symm
      obtain rfl : fn = Tryz.f13 := (Option.some.inj (Tryz.func13.symm.trans hfn)).symm
      exact ⟨by kernel_rfl, fun j t ht => by
        have hm : t ∈ Tryz.f13.params.toList := by simpa using Array.mem_of_getElem? ht
        have hall : (Tryz.f13.params.toList.all fun u => !Tryz.prog.wantsStandIn u) = true := by kernel_rfl
        exact (show Tryz.prog.wantsStandIn t = false by simpa using List.all_eq_true.1 hall t hm)⟩)
    (by kernel_rfl)
#print axioms cableTrips_holds
end Go.Proofs.YtcledkhhecdppaaGreatDoor
