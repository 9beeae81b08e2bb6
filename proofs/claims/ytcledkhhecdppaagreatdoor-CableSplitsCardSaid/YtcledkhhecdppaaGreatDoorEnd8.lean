/- A cable that is split keeps its length and delay, its places outside of the section, its direct waves and its factors: for every cable, fault and numbers that the statement takes; others are passed over. Conditions: the listed tables of the library start as the program's text lays them. -/
import Derived.Test.YtcledkhhecdppaaGreatDoorClose
import Derived.Test.YtcledkhhecdppaaGreatDoorLaw8A
namespace Go.Proofs.YtcledkhhecdppaaGreatDoor
open Go Go.Sx Go.RowKit Go.ChangeShapes
set_option maxRecDepth 100000
theorem wf8 {n : Int} (h : (Lit.int .u8 n).wf = true) : 0 ≤ n ∧ n ≤ 255 := by
  simp only [Lit.wf, IntKind.min, IntKind.max, IntKind.signed, IntKind.bits, Bool.and_eq_true, decide_eq_true_eq, Bool.false_eq_true, if_false] at h
  omega
theorem lift8 (os : Os) (started : os.Started) (H : Type) (enc : TypeId × Value → H) :
    ReturnsInHanded {} Tryz.checked os 8 .any (fun w args => (Rows.cableSplitsSpec.pre enc Tryz.prog Tryz.f8 [] false w args ∧ laidMetH Tryz.prog laid3 w) ∧ sizedMet enc Tryz.prog Tryz.f8 (OpenSpec.ofChange Rows.cableSplitsSpec) false w args)
      (Rows.cableSplitsSpec.post enc Tryz.prog Tryz.f8 false true false false) := by
  refine returnsInHanded_of_change_and (C := Tryz.checked) (X := fun w _ => laidMetH Tryz.prog laid3 w) (fun _ _ _ hh h => h.of_heap hh) lawOwn started (by kernel_rfl) Tryz.func8
    (ChangeSpec.witness_shaped (enc := enc) (C := Tryz.checked) (os := os) (X := fun w _ => laidMetH Tryz.prog laid3 w) false (World.doorLaid Tryz.prog 400 os) #[.agg #[.slice none 0 0, .slice none 0 0, .int .i64 0, .int .i64 0], .agg #[.int .i64 0, .int .i64 0, .int .i64 0, .int .i64 0], .agg #[.int .u8 0, .int .u8 0]] 8 rfl (World.shaped_of_RefB (by kernel_rfl) (by kernel_rfl)) (by kernel_rfl) (by kernel_rfl) (by kernel_rfl) (lawDoor os _)) ?_
  intro W base args ds gs before hval hW _ _ hL _
  refine law_calls (tb := 4) ok8 (fun x h => ?_) lawOut (by kernel_rfl) (by kernel_rfl) (by kernel_rfl) Tryz.underlying4 rfl (fun ds hl => ?_) (lawTab hL) hval hW
  · exact ⟨wf8 h.2.2.1.1, wf8 h.2.2.1.2⟩
  · match ds, hl with
    | [_, _, _], _ => rfl
theorem row8k10 : (Rows.cableSplitsRow.inPlace == Tryz.prog.inPlace 8) = true := by kernel_rfl
theorem row8k11 : (Rows.cableSplitsRow.unfollowed == Tryz.prog.unfollowed 8) = true := by kernel_rfl
theorem row8k12 : (Rows.cableSplitsRow.recurses == Tryz.prog.recurses 8) = true := by kernel_rfl
theorem row8k13 : (Rows.cableSplitsRow.named == Tryz.prog.varsNamed 8) = true := by kernel_rfl
theorem row8k5 : namedTie Tryz.prog Rows.cableSplitsRow.named Rows.cableSplitsSpec.vars = true := by kernel_rfl
theorem row8k22 : (Rows.cableSplitsRow.plainKeys == Tryz.prog.plainKeys) = true := by kernel_rfl
theorem row8k24b : (Rows.cableSplitsRow.lifted == Tryz.prog.liftsFinal) = true := by kernel_rfl
theorem row8k24c : (Tryz.prog.make == some Rows.cableSplitsRow.make) = true := by kernel_rfl
theorem row8a : joinedFacts Tryz.prog 8 Tryz.f8 Rows.cableSplitsSpec Rows.cableSplitsRow = true := by
  simp only [joinedFacts, Bool.and_eq_true]
  refine ⟨⟨⟨⟨⟨⟨⟨⟨⟨⟨⟨⟨⟨⟨⟨⟨⟨⟨⟨⟨⟨⟨⟨⟨⟨⟨⟨⟨⟨⟨⟨?_, ?_⟩, ?_⟩, ?_⟩, ?_⟩, ?_⟩, ?_⟩, ?_⟩, ?_⟩, ?_⟩, ?_⟩, ?_⟩, ?_⟩, ?_⟩, ?_⟩, ?_⟩, ?_⟩, ?_⟩, ?_⟩, ?_⟩, ?_⟩, ?_⟩, ?_⟩, ?_⟩, ?_⟩, ?_⟩, ?_⟩, ?_⟩, ?_⟩, ?_⟩, ?_⟩, ?_⟩
  · kernel_rfl
  · exact lawOut
  · exact law3
  · kernel_rfl
  · exact row8k5
  · kernel_rfl
  · exact law7
  · kernel_rfl
  · exact law9
  · exact row8k10
  · exact row8k11
  · exact row8k12
  · exact row8k13
  · kernel_rfl
  · kernel_rfl
  · kernel_rfl
  · kernel_rfl
  · kernel_rfl
  · kernel_rfl
  · kernel_rfl
  · kernel_rfl
  · kernel_rfl
  · exact row8k22
  · kernel_rfl
  · exact law23b
  · exact law24
  · exact row8k24b
  · exact row8k24c
  · kernel_rfl
  · kernel_rfl
  · kernel_rfl
  · kernel_rfl
theorem row8b : Tryz.f8.isInstance Tryz.prog Rows.cableSplitsRow.origin Rows.cableSplitsRow.targs := of_decide_eq_true (by kernel_rfl)
theorem row8c : Tryz.f8.isWrapper Tryz.prog Rows.cableSplitsRow.wrapper Rows.cableSplitsRow.mainSum := by unfold Func.isWrapper; rw [if_neg (of_decide_eq_false (by kernel_rfl))]; exact ⟨rfl, rfl⟩
theorem row8d : Tryz.pinned.checked.prog.funcNamed Rows.cableSplitsRow.func = some 8 := by kernel_rfl
theorem row8 : Rows.CableSplitsSaid :=
  OpenClaim.holds_of_wide (p := Tryz.pinned) (s := Rows.cableSplitsSpec) (c := Rows.cableSplitsRow) 8 Tryz.f8 rfl rfl rfl rfl rfl rfl rfl ⟨rfl, rfl, rfl, rfl, rfl⟩ rfl rfl rfl rfl rfl row8d Tryz.func8 row8a row8b row8c
    (fun os started H enc _ => lift8 os started H enc)
theorem cableSplits_holds : Rows.CableSplitsCardSaid :=
  Claim7.holds_tied_plain_at .later [] [.data, .data, .data] true Rows.cableSplitsCard.stood.harness true
    row8 (fun _ h => by cases h) (by kernel_rfl) (fun _ h => by cases h) cableSplits_row_tie rfl ⟨rfl, rfl⟩ (by kernel_rfl) rfl
    (fun f fn hf hfn => by
      obtain rfl : f = 8 := Option.some.inj (row8d.symm.trans hf) |>.symm
      obtain rfl : fn = Tryz.f8 := (Option.some.inj (Tryz.func8.symm.trans hfn)).symm
      exact ⟨by kernel_rfl, fun j t ht => by
        have hm : t ∈ Tryz.f8.params.toList := by simpa using Array.mem_of_getElem? ht
        have hall : (Tryz.f8.params.toList.all fun u => !Tryz.prog.wantsStandIn u) = true := by kernel_rfl
        exact (show Tryz.prog.wantsStandIn t = false by simpa using List.all_eq_true.1 hall t hm)⟩)
    (by kernel_rfl)
#print axioms cableSplits_holds
end Go.Proofs.YtcledkhhecdppaaGreatDoor
