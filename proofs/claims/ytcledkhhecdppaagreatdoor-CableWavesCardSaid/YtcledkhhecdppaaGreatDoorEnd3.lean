/- Waves, arrivals, records and turned faults of a cable answer as the reference does, for every cable whose lists the statement takes, every fault and every window; others are passed over. Conditions: the listed tables of the library start as the program's text lays them. -/
import Derived.Test.YtcledkhhecdppaaGreatDoorClose
import Derived.Test.YtcledkhhecdppaaGreatDoorLaw3A
namespace Go.Proofs.YtcledkhhecdppaaGreatDoor
open Go Go.Sx Go.RowKit Go.ChangeShapes
set_option maxRecDepth 100000
theorem lift3 (os : Os) (started : os.Started) (H : Type) (enc : TypeId × Value → H) :
    ReturnsInHanded {} Tryz.checked os 3 .any (fun w args => (Rows.cableWavesSpec.pre enc Tryz.prog Tryz.f3 [] false w args ∧ laidMetH Tryz.prog laid3 w) ∧ sizedMet enc Tryz.prog Tryz.f3 (OpenSpec.ofChange Rows.cableWavesSpec) false w args)
      (Rows.cableWavesSpec.post enc Tryz.prog Tryz.f3 false true false false) := by
  refine returnsInHanded_of_change_and (C := Tryz.checked) (X := fun w _ => laidMetH Tryz.prog laid3 w) (fun _ _ _ hh h => h.of_heap hh) lawOwn started (by kernel_rfl) Tryz.func3
    (ChangeSpec.witness_shaped (enc := enc) (C := Tryz.checked) (os := os) (X := fun w _ => laidMetH Tryz.prog laid3 w) false (World.doorLaid Tryz.prog 400 os) #[.agg #[.slice none 0 0, .slice none 0 0, .int .i64 0, .int .i64 0], .agg #[.int .i64 0, .int .i64 0, .int .i64 0, .int .i64 0], .int .i64 0] 8 rfl (World.shaped_of_RefB (by kernel_rfl) (by kernel_rfl)) (by kernel_rfl) (by kernel_rfl) (by kernel_rfl) (lawDoor os _)) ?_
  intro W base args ds gs before hval hW _ _ hL _
  refine law_calls (tb := 4) ok3 (fun x h => ?_) lawOut (by kernel_rfl) (by kernel_rfl) (by kernel_rfl) Tryz.underlying4 rfl (fun ds hl => ?_) (lawTab hL) hval hW
  · trivial
  · match ds, hl with
    | [_, _, _], _ => rfl
theorem row3k10 : (Rows.cableWavesRow.inPlace == Tryz.prog.inPlace 3) = true := by kernel_rfl
theorem row3k11 : (Rows.cableWavesRow.unfollowed == Tryz.prog.unfollowed 3) = true := by kernel_rfl
theorem row3k12 : (Rows.cableWavesRow.recurses == Tryz.prog.recurses 3) = true := by kernel_rfl
theorem row3k13 : (Rows.cableWavesRow.named == Tryz.prog.varsNamed 3) = true := by kernel_rfl
theorem row3k5 : namedTie Tryz.prog Rows.cableWavesRow.named Rows.cableWavesSpec.vars = true := by kernel_rfl
theorem row3k22 : (Rows.cableWavesRow.plainKeys == Tryz.prog.plainKeys) = true := by kernel_rfl
theorem row3k24b : (Rows.cableWavesRow.lifted == Tryz.prog.liftsFinal) = true := by kernel_rfl
theorem row3k24c : (Tryz.prog.make == some Rows.cableWavesRow.make) = true := by kernel_rfl
theorem row3a : joinedFacts Tryz.prog 3 Tryz.f3 Rows.cableWavesSpec Rows.cableWavesRow = true := by
  simp only [joinedFacts, Bool.and_eq_true]
  refine ⟨⟨⟨⟨⟨⟨⟨⟨⟨⟨⟨⟨⟨⟨⟨⟨⟨⟨⟨⟨⟨⟨⟨⟨⟨⟨⟨⟨⟨⟨⟨?_, ?_⟩, ?_⟩, ?_⟩, ?_⟩, ?_⟩, ?_⟩, ?_⟩, ?_⟩, ?_⟩, ?_⟩, ?_⟩, ?_⟩, ?_⟩, ?_⟩, ?_⟩, ?_⟩, ?_⟩, ?_⟩, ?_⟩, ?_⟩, ?_⟩, ?_⟩, ?_⟩, ?_⟩, ?_⟩, ?_⟩, ?_⟩, ?_⟩, ?_⟩, ?_⟩, ?_⟩
  · kernel_rfl
  · exact lawOut
  · exact law3
  · kernel_rfl
  · exact row3k5
  · kernel_rfl
  · exact law7
  · kernel_rfl
  · exact law9
  · exact row3k10
  · exact row3k11
  · exact row3k12
  · exact row3k13
  · kernel_rfl
  · kernel_rfl
  · kernel_rfl
  · kernel_rfl
  · kernel_rfl
  · kernel_rfl
  · kernel_rfl
  · kernel_rfl
  · kernel_rfl
  · exact row3k22
  · kernel_rfl
  · exact law23b
  · exact law24
  · exact row3k24b
  · exact row3k24c
  · kernel_rfl
  · kernel_rfl
  · kernel_rfl
  · kernel_rfl
theorem row3b : Tryz.f3.isInstance Tryz.prog Rows.cableWavesRow.origin Rows.cableWavesRow.targs := of_decide_eq_true (by kernel_rfl)
theorem row3c : Tryz.f3.isWrapper Tryz.prog Rows.cableWavesRow.wrapper Rows.cableWavesRow.mainSum := by unfold Func.isWrapper; rw [if_neg (of_decide_eq_false (by kernel_rfl))]; exact ⟨rfl, rfl⟩
theorem row3d : Tryz.pinned.checked.prog.funcNamed Rows.cableWavesRow.func = some 3 := by kernel_rfl
theorem row3 : Rows.CableWavesSaid :=
  OpenClaim.holds_of_wide (p := Tryz.pinned) (s := Rows.cableWavesSpec) (c := Rows.cableWavesRow) 3 Tryz.f3 rfl rfl rfl rfl rfl rfl rfl ⟨rfl, rfl, rfl, rfl, rfl⟩ rfl rfl rfl rfl rfl row3d Tryz.func3 row3a row3b row3c
    (fun os started H enc _ => lift3 os started H enc)
theorem cableWaves_holds : Rows.CableWavesCardSaid :=
  Claim7.holds_tied_plain_at .later [] [.data, .data, .data] true Rows.cableWavesCard.stood.harness true
    row3 (fun _ h => by cases h) (by kernel_rfl) (fun _ h => by cases h) cableWaves_row_tie rfl ⟨rfl, rfl⟩ (by kernel_rfl) rfl
    (fun f fn hf hfn => by
      obtain rfl : f = 3 := Option.some.inj (row3d.symm.trans hf) |>.symm
      obtain rfl : fn = Tryz.f3 := (Option.some.inj (Tryz.func3.symm.trans hfn)).symm
      exact ⟨by kernel_rfl, fun j t ht => by
        have hm : t ∈ Tryz.f3.params.toList := by simpa using Array.mem_of_getElem? ht
        have hall : (Tryz.f3.params.toList.all fun u => !Tryz.prog.wantsStandIn u) = true := by kernel_rfl
        exact (show Tryz.prog.wantsStandIn t = false by simpa using List.all_eq_true.1 hall t hm)⟩)
    (by kernel_rfl)
#print axioms cableWaves_holds
end Go.Proofs.YtcledkhhecdppaaGreatDoor
