/- A fault is among the located places, breakers open below their limits, and a cleared fault has tripped both ends and waited: for every cable, fault and numbers that the statement takes; others are passed over. Conditions: the listed tables of the library start as the program's text lays them. -/
import Derived.Test.YtcledkhhecdppaaGreatDoorClose
import Derived.Test.YtcledkhhecdppaaGreatDoorLaw7A
namespace Go.Proofs.YtcledkhhecdppaaGreatDoor
open Go Go.Sx Go.RowKit Go.ChangeShapes
set_option maxRecDepth 100000
theorem wf8 {n : Int} (h : (Lit.int .u8 n).wf = true) : 0 ≤ n ∧ n ≤ 255 := by
  simp only [Lit.wf, IntKind.min, IntKind.max, IntKind.signed, IntKind.bits, Bool.and_eq_true, decide_eq_true_eq, Bool.false_eq_true, if_false] at h
  omega
theorem lift7 (os : Os) (started : os.Started) (H : Type) (enc : TypeId × Value → H) :
    ReturnsInHanded {} Tryz.checked os 7 .any (fun w args => (Rows.cableHoldsSpec.pre enc Tryz.prog Tryz.f7 [] false w args ∧ laidMetH Tryz.prog laid3 w) ∧ sizedMet enc Tryz.prog Tryz.f7 (OpenSpec.ofChange Rows.cableHoldsSpec) false w args)
      (Rows.cableHoldsSpec.post enc Tryz.prog Tryz.f7 false true false false) := by
  refine returnsInHanded_of_change_and (C := Tryz.checked) (X := fun w _ => laidMetH Tryz.prog laid3 w) (fun _ _ _ hh h => h.of_heap hh) lawOwn started (by kernel_rfl) Tryz.func7
    (ChangeSpec.witness_shaped (enc := enc) (C := Tryz.checked) (os := os) (X := fun w _ => laidMetH Tryz.prog laid3 w) false (World.doorLaid Tryz.prog 400 os) #[.agg #[.slice none 0 0, .slice none 0 0, .int .i64 0, .int .i64 0], .agg #[.int .i64 0, .int .i64 0, .int .i64 0, .int .i64 0], .agg #[.int .u8 0, .int .u8 0, .int .u8 0, .int .u8 0]] 8 rfl (World.shaped_of_RefB (by kernel_rfl) (by kernel_rfl)) (by kernel_rfl) (by kernel_rfl) (by kernel_rfl) (lawDoor os _)) ?_
  intro W base args ds gs before hval hW _ _ hL _
  refine law_calls (tb := 4) ok7 (fun x h => ?_) lawOut (by kernel_rfl) (by kernel_rfl) (by kernel_rfl) Tryz.underlying4 rfl (fun ds hl => ?_) (lawTab hL) hval hW
  · exact ⟨wf8 h.2.2.1.1, wf8 h.2.2.1.2.1, wf8 h.2.2.1.2.2.1, wf8 h.2.2.1.2.2.2⟩
  · match ds, hl with
    | [_, _, _], _ => rfl
theorem row7k10 : (Rows.cableHoldsRow.inPlace == Tryz.prog.inPlace 7) = true := by kernel_rfl
theorem row7k11 : (Rows.cableHoldsRow.unfollowed == Tryz.prog.unfollowed 7) = true := by kernel_rfl
theorem row7k12 : (Rows.cableHoldsRow.recurses == Tryz.prog.recurses 7) = true := by kernel_rfl
theorem row7k13 : (Rows.cableHoldsRow.named == Tryz.prog.varsNamed 7) = true := by kernel_rfl
theorem row7k5 : namedTie Tryz.prog Rows.cableHoldsRow.named Rows.cableHoldsSpec.vars = true := by kernel_rfl
theorem row7k22 : (Rows.cableHoldsRow.plainKeys == Tryz.prog.plainKeys) = true := by kernel_rfl
theorem row7k24b : (Rows.cableHoldsRow.lifted == Tryz.prog.liftsFinal) = true := by kernel_rfl
theorem row7k24c : (Tryz.prog.make == some Rows.cableHoldsRow.make) = true := by kernel_rfl
theorem row7a : joinedFacts Tryz.prog 7 Tryz.f7 Rows.cableHoldsSpec Rows.cableHoldsRow = true := by
  simp only [joinedFacts, Bool.and_eq_true]
  refine ⟨⟨⟨⟨⟨⟨⟨⟨⟨⟨⟨⟨⟨⟨⟨⟨⟨⟨⟨⟨⟨⟨⟨⟨⟨⟨⟨⟨⟨⟨⟨?_, ?_⟩, ?_⟩, ?_⟩, ?_⟩, ?_⟩, ?_⟩, ?_⟩, ?_⟩, ?_⟩, ?_⟩, ?_⟩, ?_⟩, ?_⟩, ?_⟩, ?_⟩, ?_⟩, ?_⟩, ?_⟩, ?_⟩, ?_⟩, ?_⟩, ?_⟩, ?_⟩, ?_⟩, ?_⟩, ?_⟩, ?_⟩, ?_⟩, ?_⟩, ?_⟩, ?_⟩
  · kernel_rfl
  · exact lawOut
  · exact law3
  · kernel_rfl
  · exact row7k5
  · kernel_rfl
  · exact law7
  · kernel_rfl
  · exact law9
  · exact row7k10
  · exact row7k11
  · exact row7k12
  · exact row7k13
  · kernel_rfl
  · kernel_rfl
  · kernel_rfl
  · kernel_rfl
  · kernel_rfl
  · kernel_rfl
  · kernel_rfl
  · kernel_rfl
  · kernel_rfl
  · exact row7k22
  · kernel_rfl
  · exact law23b
  · exact law24
  · exact row7k24b
  · exact row7k24c
  · kernel_rfl
  · kernel_rfl
  · kernel_rfl
  · kernel_rfl
theorem row7b : Tryz.f7.isInstance Tryz.prog Rows.cableHoldsRow.origin Rows.cableHoldsRow.targs := of_decide_eq_true (by kernel_rfl)
theorem row7c : Tryz.f7.isWrapper Tryz.prog Rows.cableHoldsRow.wrapper Rows.cableHoldsRow.mainSum := by unfold Func.isWrapper; rw [if_neg (of_decide_eq_false (by kernel_rfl))]; exact ⟨rfl, rfl⟩
theorem row7d : Tryz.pinned.checked.prog.funcNamed Rows.cableHoldsRow.func = some 7 := by kernel_rfl
theorem row7 : Rows.CableHoldsSaid :=
  OpenClaim.holds_of_wide (p := Tryz.pinned) (s := Rows.cableHoldsSpec) (c := Rows.cableHoldsRow) 7 Tryz.f7 rfl rfl rfl rfl rfl rfl rfl ⟨rfl, rfl, rfl, rfl, rfl⟩ rfl rfl rfl rfl rfl row7d Tryz.func7 row7a row7b row7c
    (fun os started H enc _ => lift7 os started H enc)
theorem cableHolds_holds : Rows.CableHoldsCardSaid :=
  Claim7.holds_tied_plain_at .later [] [.data, .data, .data] true Rows.cableHoldsCard.stood.harness true
    row7 (fun _ h => by cases h) (by kernel_rfl) (fun _ h => by cases h) cableHolds_row_tie rfl ⟨rfl, rfl⟩ (by kernel_rfl) rfl
    (fun f fn hf hfn => by
      obtain rfl : f = 7 := Option.some.inj (row7d.symm.trans hf) |>.symm
      obtain rfl : fn = Tryz.f7 := (Option.some.inj (Tryz.func7.symm.trans hfn)).symm
      exact ⟨by kernel_rfl, fun j t ht => by
        have hm : t ∈ Tryz.f7.params.toList := by simpa using Array.mem_of_getElem? ht
        have hall : (Tryz.f7.params.toList.all fun u => !Tryz.prog.wantsStandIn u) = true := by kernel_rfl
        exact (show Tryz.prog.wantsStandIn t = false by simpa using List.all_eq_true.1 hall t hm)⟩)
    (by kernel_rfl)
#print axioms cableHolds_holds
end Go.Proofs.YtcledkhhecdppaaGreatDoor
