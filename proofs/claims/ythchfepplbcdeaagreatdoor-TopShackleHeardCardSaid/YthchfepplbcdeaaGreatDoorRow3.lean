/- The ticks of the first waves at both ends come back from telegrams among others, locate the fault at its place alone, and with clocks that are wrong still there; both ends trip by the thresholds of its zone, and not by those of another section that it is not too high for: for every cable, fault and three numbers that the statement takes. Conditions: the listed tables start as the program's text lays them. -/
import Derived.Test.YthchfepplbcdeaaGreatDoorClose
import Derived.Test.YthchfepplbcdeaaGreatDoorLaw3A
namespace Go.Proofs.YthchfepplbcdeaaGreatDoor
open Go Go.Sx Go.RowKit Go.ChangeShapes
set_option maxRecDepth 100000
theorem wf8 {n : Int} (h : (Lit.int .u8 n).wf = true) : 0 ≤ n ∧ n ≤ 255 := by
  simp only [Lit.wf, IntKind.min, IntKind.max, IntKind.signed, IntKind.bits, Bool.and_eq_true, decide_eq_true_eq, Bool.false_eq_true, if_false] at h
  omega
theorem lift3 (os : Os) (started : os.Started) (H : Type) (enc : TypeId × Value → H) :
    ReturnsInHanded {} Tryz.checked os 3 .any (fun w args => (Rows.topShackleHeardSpec.pre enc Tryz.prog Tryz.f3 [] false w args ∧ laidMetH Tryz.prog laid7 w) ∧ sizedMet enc Tryz.prog Tryz.f3 (OpenSpec.ofChange Rows.topShackleHeardSpec) false w args)
      (Rows.topShackleHeardSpec.post enc Tryz.prog Tryz.f3 false true false false) := by
  refine handed_shaped (C := Tryz.checked) (X := fun w _ => laidMetH Tryz.prog laid7 w) (fun _ _ _ hh h => h.of_heap hh) lawOwn started (by kernel_rfl) Tryz.func3
    (ChangeSpec.witness_shaped (enc := enc) (C := Tryz.checked) (os := os) (X := fun w _ => laidMetH Tryz.prog laid7 w) false (World.laidAll Tryz.prog os laid7) #[.agg #[.slice none 0 0, .slice none 0 0, .int .i64 0, .int .i64 0], .agg #[.int .i64 0, .int .i64 0, .int .i64 0, .int .i64 0], .agg #[.int .u8 0, .int .u8 0, .int .u8 0]] 8 (World.laidAll_os _ _ _)
      (World.shaped_of_ZipB (by kernel_rfl) (by kernel_rfl)) (by kernel_rfl) (by kernel_rfl) (by kernel_rfl)
      (by rw [MakeChecks.laidMetH_plain _ _ _ (by kernel_rfl)]; exact laidMet_laidAll _ (by kernel_rfl) (by kernel_rfl))) ?_
  intro W base args ds gs before hsh hval hW hL
  refine law_calls (tb := 4) ok3 (fun x h => ?_) lawOut (by kernel_rfl) (by kernel_rfl) (by kernel_rfl) Tryz.underlying4 rfl (fun ds hl => ?_) (lawTab hL hsh) hval hW
  · exact ⟨wf8 h.2.2.1.1, wf8 h.2.2.1.2.1, wf8 h.2.2.1.2.2⟩
  · match ds, hl with
    | [_, _, _], _ => rfl
theorem row3k10 : (Rows.topShackleHeardRow.inPlace == Tryz.prog.inPlace 3) = true := by kernel_rfl
theorem row3k11 : (Rows.topShackleHeardRow.unfollowed == Tryz.prog.unfollowed 3) = true := by kernel_rfl
theorem row3k12 : (Rows.topShackleHeardRow.recurses == Tryz.prog.recurses 3) = true := by kernel_rfl
theorem row3k13 : (Rows.topShackleHeardRow.named == Tryz.prog.varsNamed 3) = true := by kernel_rfl
theorem row3k5 : namedTie Tryz.prog Rows.topShackleHeardRow.named Rows.topShackleHeardSpec.vars = true := by kernel_rfl
theorem row3k22 : (Rows.topShackleHeardRow.plainKeys == Tryz.prog.plainKeys) = true := by kernel_rfl
theorem row3k24b : (Rows.topShackleHeardRow.lifted == Tryz.prog.liftsFinal) = true := by kernel_rfl
theorem row3k24c : (Tryz.prog.make == some Rows.topShackleHeardRow.make) = true := by kernel_rfl
theorem row3a : joinedFacts Tryz.prog 3 Tryz.f3 Rows.topShackleHeardSpec Rows.topShackleHeardRow = true := by
  simp only [joinedFacts, Bool.and_eq_true]
  refine ⟨⟨⟨⟨⟨⟨⟨⟨⟨⟨⟨⟨⟨⟨⟨⟨⟨⟨⟨⟨⟨⟨⟨⟨⟨⟨⟨⟨⟨⟨⟨?_, ?_⟩, ?_⟩, ?_⟩, ?_⟩, ?_⟩, ?_⟩, ?_⟩, ?_⟩, ?_⟩, ?_⟩, ?_⟩, ?_⟩, ?_⟩, ?_⟩, ?_⟩, ?_⟩, ?_⟩, ?_⟩, ?_⟩, ?_⟩, ?_⟩, ?_⟩, ?_⟩, ?_⟩, ?_⟩, ?_⟩, ?_⟩, ?_⟩, ?_⟩, ?_⟩, ?_⟩
  · kernel_rfl
  · exact lawOut
  · exact law3
  · kernel_rfl
  · exact row3k5
  · kernel_rfl
  · exact law7
  · kernel_rfl
  · exact law9
  · exact row3k10
  · exact row3k11
  · exact row3k12
  · exact row3k13
  · kernel_rfl
  · kernel_rfl
  · kernel_rfl
  · kernel_rfl
  · kernel_rfl
  · kernel_rfl
  · kernel_rfl
  · kernel_rfl
  · kernel_rfl
  · exact row3k22
  · kernel_rfl
  · exact law23b
  · exact law24
  · exact row3k24b
  · exact row3k24c
  · kernel_rfl
  · kernel_rfl
  · kernel_rfl
  · kernel_rfl
theorem row3b : Tryz.f3.isInstance Tryz.prog Rows.topShackleHeardRow.origin Rows.topShackleHeardRow.targs := of_decide_eq_true (by kernel_rfl)
theorem row3c : Tryz.f3.isWrapper Tryz.prog Rows.topShackleHeardRow.wrapper Rows.topShackleHeardRow.mainSum := by unfold Func.isWrapper; rw [if_neg (of_decide_eq_false (by kernel_rfl))]; exact ⟨rfl, rfl⟩
theorem row3d : Tryz.pinned.checked.prog.funcNamed Rows.topShackleHeardRow.func = some 3 := by kernel_rfl
theorem row3 : Rows.TopShackleHeardSaid :=
  OpenClaim.holds_of_wide (p := Tryz.pinned) (s := Rows.topShackleHeardSpec) (c := Rows.topShackleHeardRow) 3 Tryz.f3 rfl rfl rfl rfl rfl rfl rfl ⟨rfl, rfl, rfl, rfl, rfl⟩ rfl rfl rfl rfl rfl row3d Tryz.func3 row3a row3b row3c
    (fun os started H enc _ => lift3 os started H enc)
theorem row3e : (Rows.topShackleHeardRow).wfByText (OpenSpec.ofChange Rows.topShackleHeardSpec) = true := by kernel_rfl
theorem row3f : Tryz.pinned.checked.prog.mainIs = some (Rows.topShackleHeardCard.stood.harness.1, Rows.topShackleHeardCard.stood.harness.2.toList) := by kernel_rfl
theorem row3i : (Tryz.f3.params.toList.all fun u => !Tryz.prog.wantsStandIn u) = true := by kernel_rfl
theorem row3h : false = (Rows.topShackleHeardRow).goesBy Tryz.pinned.checked.prog := by kernel_rfl
theorem row3g : false = Tryz.pinned.checked.prog.looks [] := by kernel_rfl
theorem row3j : ∀ f fn, Tryz.pinned.checked.prog.funcNamed Rows.topShackleHeardRow.func = some f → Tryz.pinned.checked.prog.funcs[f]? = some fn → false = Tryz.pinned.checked.prog.looks [] ∧ ∀ (j : Nat) t, fn.params[j]? = some t → Tryz.pinned.checked.prog.wantsStandIn t = false := fun f fn hf hfn => by
  obtain rfl : f = 3 := Option.some.inj (row3d.symm.trans hf) |>.symm
  obtain rfl : fn = Tryz.f3 := (Option.some.inj (Tryz.func3.symm.trans hfn)).symm
  exact ⟨row3g, fun j t ht => by
    have hm : t ∈ Tryz.f3.params.toList := by simpa using Array.mem_of_getElem? ht
    exact (show Tryz.prog.wantsStandIn t = false by simpa using List.all_eq_true.1 row3i t hm)⟩
end Go.Proofs.YthchfepplbcdeaaGreatDoor
