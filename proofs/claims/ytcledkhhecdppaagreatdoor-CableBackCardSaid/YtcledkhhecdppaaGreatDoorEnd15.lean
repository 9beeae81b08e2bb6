/- Cables are parsed as they were printed, what is parsed is printed as it was, and a text without its last byte is not parsed: for every cable and string that the statement takes; others are passed over. Conditions: the listed tables of the library start as the program's text lays them. -/
import Derived.Test.YtcledkhhecdppaaGreatDoorClose
import Derived.Test.YtcledkhhecdppaaGreatDoorLaw15A
namespace Go.Proofs.YtcledkhhecdppaaGreatDoor
open Go Go.Sx Go.RowKit Go.ChangeShapes
set_option maxRecDepth 100000
theorem lift15 (os : Os) (started : os.Started) (H : Type) (enc : TypeId × Value → H) :
    ReturnsInHanded {} Tryz.checked os 15 .any (fun w args => (Rows.cableBackSpec.pre enc Tryz.prog Tryz.f15 [] false w args ∧ laidMetH Tryz.prog laid7 w) ∧ sizedMet enc Tryz.prog Tryz.f15 (OpenSpec.ofChange Rows.cableBackSpec) false w args)
      (Rows.cableBackSpec.post enc Tryz.prog Tryz.f15 false true false false) := by
  refine handed_shaped (C := Tryz.checked) (X := fun w _ => laidMetH Tryz.prog laid7 w) (fun _ _ _ hh h => h.of_heap hh) lawOwn started (by kernel_rfl) Tryz.func15
    (ChangeSpec.witness_shaped (enc := enc) (C := Tryz.checked) (os := os) (X := fun w _ => laidMetH Tryz.prog laid7 w) false (World.laidAll Tryz.prog os laid7) #[.agg #[.slice none 0 0, .slice none 0 0, .int .i64 0, .int .i64 0], .string ⟨#[]⟩] 8 (World.laidAll_os _ _ _)
      (World.shaped_of_ZipB (by kernel_rfl) (by kernel_rfl)) (by kernel_rfl) (by kernel_rfl) (by kernel_rfl)
      (by rw [MakeChecks.laidMetH_plain _ _ _ (by kernel_rfl)]; exact laidMet_laidAll _ (by kernel_rfl) (by kernel_rfl))) ?_
  intro W base args ds gs before hsh hval hW hL
  refine law_calls (tb := 4) ok15 (fun x h => ?_) lawOut (by kernel_rfl) (by kernel_rfl) (by kernel_rfl) Tryz.underlying4 rfl (fun ds hl => ?_) (lawTab hL hsh) hval hW
  · exact trivial
  · match ds, hl with
    | [_, _], _ => rfl
theorem row15k10 : (Rows.cableBackRow.inPlace == Tryz.prog.inPlace 15) = true := by kernel_rfl
theorem row15k11 : (Rows.cableBackRow.unfollowed == Tryz.prog.unfollowed 15) = true := by kernel_rfl
theorem row15k12 : (Rows.cableBackRow.recurses == Tryz.prog.recurses 15) = true := by kernel_rfl
theorem row15k13 : (Rows.cableBackRow.named == Tryz.prog.varsNamed 15) = true := by kernel_rfl
theorem row15k5 : namedTie Tryz.prog Rows.cableBackRow.named Rows.cableBackSpec.vars = true := by kernel_rfl
theorem row15k22 : (Rows.cableBackRow.plainKeys == Tryz.prog.plainKeys) = true := by kernel_rfl
theorem row15k24b : (Rows.cableBackRow.lifted == Tryz.prog.liftsFinal) = true := by kernel_rfl
theorem row15k24c : (Tryz.prog.make == some Rows.cableBackRow.make) = true := by kernel_rfl
theorem row15a : joinedFacts Tryz.prog 15 Tryz.f15 Rows.cableBackSpec Rows.cableBackRow = true := by
  simp only [joinedFacts, Bool.and_eq_true]
  refine ⟨⟨⟨⟨⟨⟨⟨⟨⟨⟨⟨⟨⟨⟨⟨⟨⟨⟨⟨⟨⟨⟨⟨⟨⟨⟨⟨⟨⟨⟨⟨?_, ?_⟩, ?_⟩, ?_⟩, ?_⟩, ?_⟩, ?_⟩, ?_⟩, ?_⟩, ?_⟩, ?_⟩, ?_⟩, ?_⟩, ?_⟩, ?_⟩, ?_⟩, ?_⟩, ?_⟩, ?_⟩, ?_⟩, ?_⟩, ?_⟩, ?_⟩, ?_⟩, ?_⟩, ?_⟩, ?_⟩, ?_⟩, ?_⟩, ?_⟩, ?_⟩, ?_⟩
  · kernel_rfl
  · exact lawOut
  · exact law3
  · kernel_rfl
  · exact row15k5
  · kernel_rfl
  · exact law7
  · kernel_rfl
  · exact law9
  · exact row15k10
  · exact row15k11
  · exact row15k12
  · exact row15k13
  · kernel_rfl
  · kernel_rfl
  · kernel_rfl
  · kernel_rfl
  · kernel_rfl
  · kernel_rfl
  · kernel_rfl
  · kernel_rfl
  · kernel_rfl
  · exact row15k22
  · kernel_rfl
  · exact law23b
  · exact law24
  · exact row15k24b
  · exact row15k24c
  · kernel_rfl
  · kernel_rfl
  · kernel_rfl
  · kernel_rfl
theorem row15b : Tryz.f15.isInstance Tryz.prog Rows.cableBackRow.origin Rows.cableBackRow.targs := of_decide_eq_true (by kernel_rfl)
theorem row15c : Tryz.f15.isWrapper Tryz.prog Rows.cableBackRow.wrapper Rows.cableBackRow.mainSum := by unfold Func.isWrapper; rw [if_neg (of_decide_eq_false (by kernel_rfl))]; exact ⟨rfl, rfl⟩
theorem row15d : Tryz.pinned.checked.prog.funcNamed Rows.cableBackRow.func = some 15 := by kernel_rfl
theorem row15 : Rows.CableBackSaid :=
  OpenClaim.holds_of_wide (p := Tryz.pinned) (s := Rows.cableBackSpec) (c := Rows.cableBackRow) 15 Tryz.f15 rfl rfl rfl rfl rfl rfl rfl ⟨rfl, rfl, rfl, rfl, rfl⟩ rfl rfl rfl rfl rfl row15d Tryz.func15 row15a row15b row15c
    (fun os started H enc _ => lift15 os started H enc)
theorem cableBack_holds : Rows.CableBackCardSaid :=
  Claim7.holds_tied_plain_at .later [] [.data, .data, .data, .data, .sentinel, .sentinel, .pinned] true Rows.cableBackCard.stood.harness true
    row15 (fun _ h => by cases h) (by kernel_rfl) (fun _ h => by cases h) cableBack_row_tie rfl ⟨rfl, rfl⟩ (by kernel_rfl) rfl
    (fun f fn hf hfn => by
      obtain rfl : f = 15 := Option.some.inj (row15d.symm.trans hf) |>.symm
      obtain rfl : fn = Tryz.f15 := (Option.some.inj (Tryz.func15.symm.trans hfn)).symm
      exact ⟨by kernel_rfl, fun j t ht => by
        have hm : t ∈ Tryz.f15.params.toList := by simpa using Array.mem_of_getElem? ht
        have hall : (Tryz.f15.params.toList.all fun u => !Tryz.prog.wantsStandIn u) = true := by kernel_rfl
        exact (show Tryz.prog.wantsStandIn t = false by simpa using List.all_eq_true.1 hall t hm)⟩)
    (by kernel_rfl)
#print axioms cableBack_holds
end Go.Proofs.YtcledkhhecdppaaGreatDoor
