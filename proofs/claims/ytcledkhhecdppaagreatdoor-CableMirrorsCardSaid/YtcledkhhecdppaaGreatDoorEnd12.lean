/- The reversed cable has the arrivals of the turned fault at the other ends, and higher, opposite and later faults have arrivals accordingly: for every cable, fault and window that the statement takes; others are passed over. Conditions: the listed tables of the library start as the program's text lays them. -/
import Derived.Test.YtcledkhhecdppaaGreatDoorClose
import Derived.Test.YtcledkhhecdppaaGreatDoorLaw12A
namespace Go.Proofs.YtcledkhhecdppaaGreatDoor
open Go Go.Sx Go.RowKit Go.ChangeShapes
set_option maxRecDepth 100000
theorem wf8 {n : Int} (h : (Lit.int .u8 n).wf = true) : 0 ≤ n ∧ n ≤ 255 := by
  simp only [Lit.wf, IntKind.min, IntKind.max, IntKind.signed, IntKind.bits, Bool.and_eq_true, decide_eq_true_eq, Bool.false_eq_true, if_false] at h
  omega
theorem lift12 (os : Os) (started : os.Started) (H : Type) (enc : TypeId × Value → H) :
    ReturnsInHanded {} Tryz.checked os 12 .any (fun w args => (Rows.cableMirrorsSpec.pre enc Tryz.prog Tryz.f12 [] false w args ∧ laidMetH Tryz.prog laid3 w) ∧ sizedMet enc Tryz.prog Tryz.f12 (OpenSpec.ofChange Rows.cableMirrorsSpec) false w args)
      (Rows.cableMirrorsSpec.post enc Tryz.prog Tryz.f12 false true false false) := by
  refine returnsInHanded_of_change_and (C := Tryz.checked) (X := fun w _ => laidMetH Tryz.prog laid3 w) (fun _ _ _ hh h => h.of_heap hh) lawOwn started (by kernel_rfl) Tryz.func12
    (ChangeSpec.witness_shaped (enc := enc) (C := Tryz.checked) (os := os) (X := fun w _ => laidMetH Tryz.prog laid3 w) false (World.doorLaid Tryz.prog 400 os) #[.agg #[.slice none 0 0, .slice none 0 0, .int .i64 0, .int .i64 0], .agg #[.int .i64 0, .int .i64 0, .int .i64 0, .int .i64 0], .int .u8 0] 8 rfl (World.shaped_of_RefB (by kernel_rfl) (by kernel_rfl)) (by kernel_rfl) (by kernel_rfl) (by kernel_rfl) (lawDoor os _)) ?_
  intro W base args ds gs before hval hW _ _ hL _
  refine law_calls (tb := 4) ok12 (fun x h => ?_) lawOut (by kernel_rfl) (by kernel_rfl) (by kernel_rfl) Tryz.underlying4 rfl (fun ds hl => ?_) (lawTab hL) hval hW
  · exact wf8 h.2.2.1
  · match ds, hl with
    | [_, _, _], _ => rfl
theorem row12k10 : (Rows.cableMirrorsRow.inPlace == Tryz.prog.inPlace 12) = true := by kernel_rfl
theorem row12k11 : (Rows.cableMirrorsRow.unfollowed == Tryz.prog.unfollowed 12) = true := by kernel_rfl
theorem row12k12 : (Rows.cableMirrorsRow.recurses == Tryz.prog.recurses 12) = true := by kernel_rfl
theorem row12k13 : (Rows.cableMirrorsRow.named == Tryz.prog.varsNamed 12) = true := by kernel_rfl
theorem row12k5 : namedTie Tryz.prog Rows.cableMirrorsRow.named Rows.cableMirrorsSpec.vars = true := by kernel_rfl
theorem row12k22 : (Rows.cableMirrorsRow.plainKeys == Tryz.prog.plainKeys) = true := by kernel_rfl
theorem row12k24b : (Rows.cableMirrorsRow.lifted == Tryz.prog.liftsFinal) = true := by kernel_rfl
theorem row12k24c : (Tryz.prog.make == some Rows.cableMirrorsRow.make) = true := by kernel_rfl
theorem row12a : joinedFacts Tryz.prog 12 Tryz.f12 Rows.cableMirrorsSpec Rows.cableMirrorsRow = true := by
  simp only [joinedFacts, Bool.and_eq_true]
  refine ⟨⟨⟨⟨⟨⟨⟨⟨⟨⟨⟨⟨⟨⟨⟨⟨⟨⟨⟨⟨⟨⟨⟨⟨⟨⟨⟨⟨⟨⟨⟨?_, ?_⟩, ?_⟩, ?_⟩, ?_⟩, ?_⟩, ?_⟩, ?_⟩, ?_⟩, ?_⟩, ?_⟩, ?_⟩, ?_⟩, ?_⟩, ?_⟩, ?_⟩, ?_⟩, ?_⟩, ?_⟩, ?_⟩, ?_⟩, ?_⟩, ?_⟩, ?_⟩, ?_⟩, ?_⟩, ?_⟩, ?_⟩, ?_⟩, ?_⟩, ?_⟩, ?_⟩
  · kernel_rfl
  · exact lawOut
  · exact law3
  · kernel_rfl
  · exact row12k5
  · kernel_rfl
  · exact law7
  · kernel_rfl
  · exact law9
  · exact row12k10
  · exact row12k11
  · exact row12k12
  · exact row12k13
  · kernel_rfl
  · kernel_rfl
  · kernel_rfl
  · kernel_rfl
  · kernel_rfl
  · kernel_rfl
  · kernel_rfl
  · kernel_rfl
  · kernel_rfl
  · exact row12k22
  · kernel_rfl
  · exact law23b
  · exact law24
  · exact row12k24b
  · exact row12k24c
  · kernel_rfl
  · kernel_rfl
  · kernel_rfl
  · kernel_rfl
theorem row12b : Tryz.f12.isInstance Tryz.prog Rows.cableMirrorsRow.origin Rows.cableMirrorsRow.targs := of_decide_eq_true (by kernel_rfl)
theorem row12c : Tryz.f12.isWrapper Tryz.prog Rows.cableMirrorsRow.wrapper Rows.cableMirrorsRow.mainSum := by unfold Func.isWrapper; rw [if_neg (of_decide_eq_false (by kernel_rfl))]; exact ⟨rfl, rfl⟩
theorem row12d : Tryz.pinned.checked.prog.funcNamed Rows.cableMirrorsRow.func = some 12 := by kernel_rfl
theorem row12 : Rows.CableMirrorsSaid :=
  OpenClaim.holds_of_wide (p := Tryz.pinned) (s := Rows.cableMirrorsSpec) (c := Rows.cableMirrorsRow) 12 Tryz.f12 rfl rfl rfl rfl rfl rfl rfl ⟨rfl, rfl, rfl, rfl, rfl⟩ rfl rfl rfl rfl rfl row12d Tryz.func12 row12a row12b row12c
    (fun os started H enc _ => lift12 os started H enc)
theorem cableMirrors_holds : Rows.CableMirrorsCardSaid :=
  Claim7.holds_tied_plain_at .later [] [.data, .data, .data] true Rows.cableMirrorsCard.stood.harness true
    row12 (fun _ h => by cases h) (by kernel_rfl) (fun _ h => by cases h) cableMirrors_row_tie rfl ⟨rfl, rfl⟩ (by kernel_rfl) rfl
    (fun f fn hf hfn => by
      obtain rfl : f = 12 := Option.some.inj (row12d.symm.trans hf) |>.symm
      obtain rfl : fn = Tryz.f12 := (Option.some.inj (Tryz.func12.symm.trans hfn)).symm
      exact ⟨by kernel_rfl, fun j t ht => by
        have hm : t ∈ Tryz.f12.params.toList := by simpa using Array.mem_of_getElem? ht
        have hall : (Tryz.f12.params.toList.all fun u => !Tryz.prog.wantsStandIn u) = true := by kernel_rfl
        exact (show Tryz.prog.wantsStandIn t = false by simpa using List.all_eq_true.1 hall t hm)⟩)
    (by kernel_rfl)
#print axioms cableMirrors_holds
end Go.Proofs.YtcledkhhecdppaaGreatDoor
