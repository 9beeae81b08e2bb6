/- The clearing of a fault answers as the reference does, for every cable whose lists the statement takes, every fault and every plan; others are passed over. Conditions: the listed tables of the library start as the program's text lays them. -/
import Derived.Test.YtcledkhhecdppaaGreatDoorClose
import Derived.Test.YtcledkhhecdppaaGreatDoorLaw6A
namespace Go.Proofs.YtcledkhhecdppaaGreatDoor
open Go Go.Sx Go.RowKit Go.ChangeShapes
set_option maxRecDepth 100000
theorem lift6 (os : Os) (started : os.Started) (H : Type) (enc : TypeId × Value → H) :
    ReturnsInHanded {} Tryz.checked os 6 .any (fun w args => (Rows.cableClearsSpec.pre enc Tryz.prog Tryz.f6 [] false w args ∧ laidMetH Tryz.prog laid3 w) ∧ sizedMet enc Tryz.prog Tryz.f6 (OpenSpec.ofChange Rows.cableClearsSpec) false w args)
      (Rows.cableClearsSpec.post enc Tryz.prog Tryz.f6 false true false false) := by
  refine returnsInHanded_of_change_and (C := Tryz.checked) (X := fun w _ => laidMetH Tryz.prog laid3 w) (fun _ _ _ hh h => h.of_heap hh) lawOwn started (by kernel_rfl) Tryz.func6
    (ChangeSpec.witness_shaped (enc := enc) (C := Tryz.checked) (os := os) (X := fun w _ => laidMetH Tryz.prog laid3 w) false (World.doorLaid Tryz.prog 400 os) #[.agg #[.slice none 0 0, .slice none 0 0, .int .i64 0, .int .i64 0], .agg #[.int .i64 0, .int .i64 0, .int .i64 0, .int .i64 0], .agg #[.int .i64 0, .int .i64 0, .int .i64 0, .int .i64 0, .int .i64 0]] 8 rfl (World.shaped_of_RefB (by kernel_rfl) (by kernel_rfl)) (by kernel_rfl) (by kernel_rfl) (by kernel_rfl) (lawDoor os _)) ?_
  intro W base args ds gs before hval hW _ _ hL _
  refine law_calls (tb := 4) ok6 (fun x h => ?_) lawOut (by kernel_rfl) (by kernel_rfl) (by kernel_rfl) Tryz.underlying4 rfl (fun ds hl => ?_) (lawTab hL) hval hW
  · trivial
  · match ds, hl with
    | [_, _, _], _ => rfl
theorem row6k10 : (Rows.cableClearsRow.inPlace == Tryz.prog.inPlace 6) = true := by kernel_rfl
theorem row6k11 : (Rows.cableClearsRow.unfollowed == Tryz.prog.unfollowed 6) = true := by kernel_rfl
theorem row6k12 : (Rows.cableClearsRow.recurses == Tryz.prog.recurses 6) = true := by kernel_rfl
theorem row6k13 : (Rows.cableClearsRow.named == Tryz.prog.varsNamed 6) = true := by kernel_rfl
theorem row6k5 : namedTie Tryz.prog Rows.cableClearsRow.named Rows.cableClearsSpec.vars = true := by kernel_rfl
theorem row6k22 : (Rows.cableClearsRow.plainKeys == Tryz.prog.plainKeys) = true := by kernel_rfl
theorem row6k24b : (Rows.cableClearsRow.lifted == Tryz.prog.liftsFinal) = true := by kernel_rfl
theorem row6k24c : (Tryz.prog.make == some Rows.cableClearsRow.make) = true := by kernel_rfl
theorem row6a : joinedFacts Tryz.prog 6 Tryz.f6 Rows.cableClearsSpec Rows.cableClearsRow = true := by
  simp only [joinedFacts, Bool.and_eq_true]
  refine ⟨⟨⟨⟨⟨⟨⟨⟨⟨⟨⟨⟨⟨⟨⟨⟨⟨⟨⟨⟨⟨⟨⟨⟨⟨⟨⟨⟨⟨⟨⟨?_, ?_⟩, ?_⟩, ?_⟩, ?_⟩, ?_⟩, ?_⟩, ?_⟩, ?_⟩, ?_⟩, ?_⟩, ?_⟩, ?_⟩, ?_⟩, ?_⟩, ?_⟩, ?_⟩, ?_⟩, ?_⟩, ?_⟩, ?_⟩, ?_⟩, ?_⟩, ?_⟩, ?_⟩, ?_⟩, ?_⟩, ?_⟩, ?_⟩, ?_⟩, ?_⟩, ?_⟩
  · kernel_rfl
  · exact lawOut
  · exact law3
  · kernel_rfl
  · exact row6k5
  · kernel_rfl
  · exact law7
  · kernel_rfl
  · exact law9
  · exact row6k10
  · exact row6k11
  · exact row6k12
  · exact row6k13
  · kernel_rfl
  · kernel_rfl
  · kernel_rfl
  · kernel_rfl
  · kernel_rfl
  · kernel_rfl
  · kernel_rfl
  · kernel_rfl
  · kernel_rfl
  · exact row6k22
  · kernel_rfl
  · exact law23b
  · exact law24
  · exact row6k24b
  · exact row6k24c
  · kernel_rfl
  · kernel_rfl
  · kernel_rfl
  · kernel_rfl
theorem row6b : Tryz.f6.isInstance Tryz.prog Rows.cableClearsRow.origin Rows.cableClearsRow.targs := of_decide_eq_true (by kernel_rfl)
theorem row6c : Tryz.f6.isWrapper Tryz.prog Rows.cableClearsRow.wrapper Rows.cableClearsRow.mainSum := by unfold Func.isWrapper; rw [if_neg (of_decide_eq_false (by kernel_rfl))]; exact ⟨rfl, rfl⟩
theorem row6d : Tryz.pinned.checked.prog.funcNamed Rows.cableClearsRow.func = some 6 := by kernel_rfl
theorem row6 : Rows.CableClearsSaid :=
  OpenClaim.holds_of_wide (p := Tryz.pinned) (s := Rows.cableClearsSpec) (c := Rows.cableClearsRow) 6 Tryz.f6 rfl rfl rfl rfl rfl rfl rfl ⟨rfl, rfl, rfl, rfl, rfl⟩ rfl rfl rfl rfl rfl row6d Tryz.func6 row6a row6b row6c
    (fun os started H enc _ => lift6 os started H enc)
theorem cableClears_holds : Rows.CableClearsCardSaid :=
  Claim7.holds_tied_plain_at .later [] [.data, .data, .data] true Rows.cableClearsCard.stood.harness true
    row6 (fun _ h => by cases h) (by kernel_rfl) (fun _ h => by cases h) cableClears_row_tie rfl ⟨rfl, rfl⟩ (by kernel_rfl) rfl
    (fun f fn hf hfn => by
      obtain rfl : f = 6 := Option.some.inj (row6d.symm.trans hf) |>.symm
      obtain rfl : fn = Tryz.f6 := (Option.some.inj (Tryz.func6.symm.trans hfn)).symm
      exact ⟨by kernel_rfl, fun j t ht => by
        have hm : t ∈ Tryz.f6.params.toList := by simpa using Array.mem_of_getElem? ht
        have hall : (Tryz.f6.params.toList.all fun u => !Tryz.prog.wantsStandIn u) = true := by kernel_rfl
        exact (show Tryz.prog.wantsStandIn t = false by simpa using List.all_eq_true.1 hall t hm)⟩)
    (by kernel_rfl)
#print axioms cableClears_holds
end Go.Proofs.YtcledkhhecdppaaGreatDoor
