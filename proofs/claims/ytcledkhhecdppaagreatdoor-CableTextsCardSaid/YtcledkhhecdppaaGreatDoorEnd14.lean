/- Cables are printed and texts parsed as the reference does, for every cable whose lists the statement takes and every string whose length it takes; others are passed over. Conditions: the listed tables of the library start as the program's text lays them. -/
import Derived.Test.YtcledkhhecdppaaGreatDoorClose
import Derived.Test.YtcledkhhecdppaaGreatDoorLaw14A
namespace Go.Proofs.YtcledkhhecdppaaGreatDoor
open Go Go.Sx Go.RowKit Go.ChangeShapes
set_option maxRecDepth 100000
theorem lift14 (os : Os) (started : os.Started) (H : Type) (enc : TypeId × Value → H) :
    ReturnsInHanded {} Tryz.checked os 14 .any (fun w args => (Rows.cableTextsSpec.pre enc Tryz.prog Tryz.f14 [] false w args ∧ laidMetH Tryz.prog laid7 w) ∧ sizedMet enc Tryz.prog Tryz.f14 (OpenSpec.ofChange Rows.cableTextsSpec) false w args)
      (Rows.cableTextsSpec.post enc Tryz.prog Tryz.f14 false true false false) := by
  refine handed_shaped (C := Tryz.checked) (X := fun w _ => laidMetH Tryz.prog laid7 w) (fun _ _ _ hh h => h.of_heap hh) lawOwn started (by kernel_rfl) Tryz.func14
    (ChangeSpec.witness_shaped (enc := enc) (C := Tryz.checked) (os := os) (X := fun w _ => laidMetH Tryz.prog laid7 w) false (World.laidAll Tryz.prog os laid7) #[.agg #[.slice none 0 0, .slice none 0 0, .int .i64 0, .int .i64 0], .string ⟨#[]⟩] 8 (World.laidAll_os _ _ _)
      (World.shaped_of_ZipB (by kernel_rfl) (by kernel_rfl)) (by kernel_rfl) (by kernel_rfl) (by kernel_rfl)
      (by rw [MakeChecks.laidMetH_plain _ _ _ (by kernel_rfl)]; exact laidMet_laidAll _ (by kernel_rfl) (by kernel_rfl))) ?_
  intro W base args ds gs before hsh hval hW hL
  refine law_calls (tb := 4) ok14 (fun x h => ?_) lawOut (by kernel_rfl) (by kernel_rfl) (by kernel_rfl) Tryz.underlying4 rfl (fun ds hl => ?_) (lawTab hL hsh) hval hW
  · exact trivial
  · match ds, hl with
    | [_, _], _ => rfl
theorem row14k10 : (Rows.cableTextsRow.inPlace == Tryz.prog.inPlace 14) = true := by kernel_rfl
theorem row14k11 : (Rows.cableTextsRow.unfollowed == Tryz.prog.unfollowed 14) = true := by kernel_rfl
theorem row14k12 : (Rows.cableTextsRow.recurses == Tryz.prog.recurses 14) = true := by kernel_rfl
theorem row14k13 : (Rows.cableTextsRow.named == Tryz.prog.varsNamed 14) = true := by kernel_rfl
theorem row14k5 : namedTie Tryz.prog Rows.cableTextsRow.named Rows.cableTextsSpec.vars = true := by kernel_rfl
theorem row14k22 : (Rows.cableTextsRow.plainKeys == Tryz.prog.plainKeys) = true := by kernel_rfl
theorem row14k24b : (Rows.cableTextsRow.lifted == Tryz.prog.liftsFinal) = true := by kernel_rfl
theorem row14k24c : (Tryz.prog.make == some Rows.cableTextsRow.make) = true := by kernel_rfl
theorem row14a : joinedFacts Tryz.prog 14 Tryz.f14 Rows.cableTextsSpec Rows.cableTextsRow = true := by
  simp only [joinedFacts, Bool.and_eq_true]
  refine ⟨⟨⟨⟨⟨⟨⟨⟨⟨⟨⟨⟨⟨⟨⟨⟨⟨⟨⟨⟨⟨⟨⟨⟨⟨⟨⟨⟨⟨⟨⟨?_, ?_⟩, ?_⟩, ?_⟩, ?_⟩, ?_⟩, ?_⟩, ?_⟩, ?_⟩, ?_⟩, ?_⟩, ?_⟩, ?_⟩, ?_⟩, ?_⟩, ?_⟩, ?_⟩, ?_⟩, ?_⟩, ?_⟩, ?_⟩, ?_⟩, ?_⟩, ?_⟩, ?_⟩, ?_⟩, ?_⟩, ?_⟩, ?_⟩, ?_⟩, ?_⟩, ?_⟩
  · kernel_rfl
  · exact lawOut
  · exact law3
  · kernel_rfl
  · exact row14k5
  · kernel_rfl
  · exact law7
  · kernel_rfl
  · exact law9
  · exact row14k10
  · exact row14k11
  · exact row14k12
  · exact row14k13
  · kernel_rfl
  · kernel_rfl
  · kernel_rfl
  · kernel_rfl
  · kernel_rfl
  · kernel_rfl
  · kernel_rfl
  · kernel_rfl
  · kernel_rfl
  · exact row14k22
  · kernel_rfl
  · exact law23b
  · exact law24
  · exact row14k24b
  · exact row14k24c
  · kernel_rfl
  · kernel_rfl
  · kernel_rfl
  · kernel_rfl
theorem row14b : Tryz.f14.isInstance Tryz.prog Rows.cableTextsRow.origin Rows.cableTextsRow.targs := of_decide_eq_true (by kernel_rfl)
theorem row14c : Tryz.f14.isWrapper Tryz.prog Rows.cableTextsRow.wrapper Rows.cableTextsRow.mainSum := by unfold Func.isWrapper; rw [if_neg (of_decide_eq_false (by kernel_rfl))]; exact ⟨rfl, rfl⟩
theorem row14d : Tryz.pinned.checked.prog.funcNamed Rows.cableTextsRow.func = some 14 := by kernel_rfl
theorem row14 : Rows.CableTextsSaid :=
  OpenClaim.holds_of_wide (p := Tryz.pinned) (s := Rows.cableTextsSpec) (c := Rows.cableTextsRow) 14 Tryz.f14 rfl rfl rfl rfl rfl rfl rfl ⟨rfl, rfl, rfl, rfl, rfl⟩ rfl rfl rfl rfl rfl row14d Tryz.func14 row14a row14b row14c
    (fun os started H enc _ => lift14 os started H enc)
theorem cableTexts_holds : Rows.CableTextsCardSaid :=
  Claim7.holds_tied_plain_at .later [] [.data, .data, .data, .data, .sentinel, .sentinel, .pinned] true Rows.cableTextsCard.stood.harness true
    row14 (fun _ h => by cases h) (by kernel_rfl) (fun _ h => by cases h) cableTexts_row_tie rfl ⟨rfl, rfl⟩ (by kernel_rfl) rfl
    (fun f fn hf hfn => by
      obtain rfl : f = 14 := Option.some.inj (row14d.symm.trans hf) |>.symm
      obtain rfl : fn = Tryz.f14 := (Option.some.inj (Tryz.func14.symm.trans hfn)).symm
      exact ⟨by kernel_rfl, fun j t ht => by
        have hm : t ∈ Tryz.f14.params.toList := by simpa using Array.mem_of_getElem? ht
        have hall : (Tryz.f14.params.toList.all fun u => !Tryz.prog.wantsStandIn u) = true := by kernel_rfl
        exact (show Tryz.prog.wantsStandIn t = false by simpa using List.all_eq_true.1 hall t hm)⟩)
    (by kernel_rfl)
#print axioms cableTexts_holds
end Go.Proofs.YtcledkhhecdppaaGreatDoor
