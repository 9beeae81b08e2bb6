/- The opening of a breaker answers as the reference does, for every list of arrivals and end that the statement takes and every watch; others are passed over. Conditions: the listed tables of the library start as the program's text lays them. -/
import Derived.Test.YtcledkhhecdppaaGreatDoorClose
import Derived.Test.YtcledkhhecdppaaGreatDoorLaw5A
namespace Go.Proofs.YtcledkhhecdppaaGreatDoor
open Go Go.Sx Go.RowKit Go.ChangeShapes
set_option maxRecDepth 100000
theorem lift5 (os : Os) (started : os.Started) (H : Type) (enc : TypeId × Value → H) :
    ReturnsInHanded {} Tryz.checked os 5 .any (fun w args => (Rows.cableOpensSpec.pre enc Tryz.prog Tryz.f5 [] false w args ∧ laidMetH Tryz.prog laid3 w) ∧ sizedMet enc Tryz.prog Tryz.f5 (OpenSpec.ofChange Rows.cableOpensSpec) false w args)
      (Rows.cableOpensSpec.post enc Tryz.prog Tryz.f5 false true false false) := by
  refine returnsInHanded_of_change_and (C := Tryz.checked) (X := fun w _ => laidMetH Tryz.prog laid3 w) (fun _ _ _ hh h => h.of_heap hh) lawOwn started (by kernel_rfl) Tryz.func5
    (ChangeSpec.witness_shaped (enc := enc) (C := Tryz.checked) (os := os) (X := fun w _ => laidMetH Tryz.prog laid3 w) false (World.doorLaid Tryz.prog 400 os) #[.slice none 0 0, .string ⟨#[]⟩, .agg #[.int .i64 0, .int .i64 0, .int .i64 0]] 8 rfl (World.shaped_of_RefB (by kernel_rfl) (by kernel_rfl)) (by kernel_rfl) (by kernel_rfl) (by kernel_rfl) (lawDoor os _)) ?_
  intro W base args ds gs before hval hW _ _ hL _
  refine law_calls (tb := 4) ok5 (fun x h => ?_) lawOut (by kernel_rfl) (by kernel_rfl) (by kernel_rfl) Tryz.underlying4 rfl (fun ds hl => ?_) (lawTab hL) hval hW
  · exact h.1.1
  · match ds, hl with
    | [_, _, _], _ => rfl
theorem row5k10 : (Rows.cableOpensRow.inPlace == Tryz.prog.inPlace 5) = true := by kernel_rfl
theorem row5k11 : (Rows.cableOpensRow.unfollowed == Tryz.prog.unfollowed 5) = true := by kernel_rfl
theorem row5k12 : (Rows.cableOpensRow.recurses == Tryz.prog.recurses 5) = true := by kernel_rfl
theorem row5k13 : (Rows.cableOpensRow.named == Tryz.prog.varsNamed 5) = true := by kernel_rfl
theorem row5k5 : namedTie Tryz.prog Rows.cableOpensRow.named Rows.cableOpensSpec.vars = true := by kernel_rfl
theorem row5k22 : (Rows.cableOpensRow.plainKeys == Tryz.prog.plainKeys) = true := by kernel_rfl
theorem row5k24b : (Rows.cableOpensRow.lifted == Tryz.prog.liftsFinal) = true := by kernel_rfl
theorem row5k24c : (Tryz.prog.make == some Rows.cableOpensRow.make) = true := by kernel_rfl
theorem row5a : joinedFacts Tryz.prog 5 Tryz.f5 Rows.cableOpensSpec Rows.cableOpensRow = true := by
  simp only [joinedFacts, Bool.and_eq_true]
  refine ⟨⟨⟨⟨⟨⟨⟨⟨⟨⟨⟨⟨⟨⟨⟨⟨⟨⟨⟨⟨⟨⟨⟨⟨⟨⟨⟨⟨⟨⟨⟨?_, ?_⟩, ?_⟩, ?_⟩, ?_⟩, ?_⟩, ?_⟩, ?_⟩, ?_⟩, ?_⟩, ?_⟩, ?_⟩, ?_⟩, ?_⟩, ?_⟩, ?_⟩, ?_⟩, ?_⟩, ?_⟩, ?_⟩, ?_⟩, ?_⟩, ?_⟩, ?_⟩, ?_⟩, ?_⟩, ?_⟩, ?_⟩, ?_⟩, ?_⟩, ?_⟩, ?_⟩
  · kernel_rfl
  · exact lawOut
  · exact law3
  · kernel_rfl
  · exact row5k5
  · kernel_rfl
  · exact law7
  · kernel_rfl
  · exact law9
  · exact row5k10
  · exact row5k11
  · exact row5k12
  · exact row5k13
  · kernel_rfl
  · kernel_rfl
  · kernel_rfl
  · kernel_rfl
  · kernel_rfl
  · kernel_rfl
  · kernel_rfl
  · kernel_rfl
  · kernel_rfl
  · exact row5k22
  · kernel_rfl
  · exact law23b
  · exact law24
  · exact row5k24b
  · exact row5k24c
  · kernel_rfl
  · kernel_rfl
  · kernel_rfl
  · kernel_rfl
theorem row5b : Tryz.f5.isInstance Tryz.prog Rows.cableOpensRow.origin Rows.cableOpensRow.targs := of_decide_eq_true (by kernel_rfl)
theorem row5c : Tryz.f5.isWrapper Tryz.prog Rows.cableOpensRow.wrapper Rows.cableOpensRow.mainSum := by unfold Func.isWrapper; rw [if_neg (of_decide_eq_false (by kernel_rfl))]; exact ⟨rfl, rfl⟩
theorem row5d : Tryz.pinned.checked.prog.funcNamed Rows.cableOpensRow.func = some 5 := by kernel_rfl
theorem row5 : Rows.CableOpensSaid :=
  OpenClaim.holds_of_wide (p := Tryz.pinned) (s := Rows.cableOpensSpec) (c := Rows.cableOpensRow) 5 Tryz.f5 rfl rfl rfl rfl rfl rfl rfl ⟨rfl, rfl, rfl, rfl, rfl⟩ rfl rfl rfl rfl rfl row5d Tryz.func5 row5a row5b row5c
    (fun os started H enc _ => lift5 os started H enc)
theorem cableOpens_holds : Rows.CableOpensCardSaid :=
  Claim7.holds_tied_plain_at .later [] [.data, .data, .data] true Rows.cableOpensCard.stood.harness true
    row5 (fun _ h => by cases h) (by kernel_rfl) (fun _ h => by cases h) cableOpens_row_tie rfl ⟨rfl, rfl⟩ (by kernel_rfl) rfl
    (fun f fn hf hfn => by
      obtain rfl : f = 5 := Option.some.inj (row5d.symm.trans hf) |>.symm
      obtain rfl : fn = Tryz.f5 := (Option.some.inj (Tryz.func5.symm.trans hfn)).symm
      exact ⟨by kernel_rfl, fun j t ht => by
        have hm : t ∈ Tryz.f5.params.toList := by simpa using Array.mem_of_getElem? ht
        have hall : (Tryz.f5.params.toList.all fun u => !Tryz.prog.wantsStandIn u) = true := by kernel_rfl
        exact (show Tryz.prog.wantsStandIn t = false by simpa using List.all_eq_true.1 hall t hm)⟩)
    (by kernel_rfl)
#print axioms cableOpens_holds
end Go.Proofs.YtcledkhhecdppaaGreatDoor
