/- Settled hours, bills and accounts stay: for every journal that the statement takes; others are passed over. Conditions: the listed tables of the library start as the program's text lays them. -/
import Derived.Test.YtcibbcfiemeoiaaGreatDoorClose
import Derived.Test.YtcibbcfiemeoiaaGreatDoorLaw12A
namespace Go.Proofs.YtcibbcfiemeoiaaGreatDoor
open Go Go.Sx Go.RowKit Go.ChangeShapes
set_option maxRecDepth 100000
theorem lift12 (os : Os) (started : os.Started) (H : Type) (enc : TypeId × Value → H) :
    ReturnsInHanded {} Tryz.checked os 12 .any (fun w args => (Rows.booksFinalSpec.pre enc Tryz.prog Tryz.f12 [] false w args ∧ laidMetH Tryz.prog laid7 w) ∧ sizedMet enc Tryz.prog Tryz.f12 (OpenSpec.ofChange Rows.booksFinalSpec) false w args)
      (Rows.booksFinalSpec.post enc Tryz.prog Tryz.f12 false true false false) := by
  refine handed_shaped (C := Tryz.checked) (X := fun w _ => laidMetH Tryz.prog laid7 w) (fun _ _ _ hh h => h.of_heap hh) lawOwn started (by kernel_rfl) Tryz.func12
    (ChangeSpec.witness_shaped (enc := enc) (C := Tryz.checked) (os := os) (X := fun w _ => laidMetH Tryz.prog laid7 w) false (World.laidAll Tryz.prog os laid7) #[.slice none 0 0] 8 (World.laidAll_os _ _ _)
      (World.shaped_of_ZipB (by kernel_rfl) (by kernel_rfl)) (by kernel_rfl) (by kernel_rfl) (by kernel_rfl)
      (by rw [MakeChecks.laidMetH_plain _ _ _ (by kernel_rfl)]; exact laidMet_laidAll _ (by kernel_rfl) (by kernel_rfl))) ?_
  intro W base args ds gs before hsh hval hW hL
  refine law_calls (tb := 4) ok12 (fun x h => ?_) lawOut (by kernel_rfl) (by kernel_rfl) (by kernel_rfl) Tryz.underlying4 rfl (fun ds hl => ?_) (lawTab hL hsh) hval hW
  · exact trivial
  · match ds, hl with
    | [_], _ => rfl
theorem row12k10 : (Rows.booksFinalRow.inPlace == Tryz.prog.inPlace 12) = true := by kernel_rfl
theorem row12k11 : (Rows.booksFinalRow.unfollowed == Tryz.prog.unfollowed 12) = true := by kernel_rfl
theorem row12k12 : (Rows.booksFinalRow.recurses == Tryz.prog.recurses 12) = true := by kernel_rfl
theorem row12k13 : (Rows.booksFinalRow.named == Tryz.prog.varsNamed 12) = true := by kernel_rfl
theorem row12k5 : namedTie Tryz.prog Rows.booksFinalRow.named Rows.booksFinalSpec.vars = true := by kernel_rfl
theorem row12k22 : (Rows.booksFinalRow.plainKeys == Tryz.prog.plainKeys) = true := by kernel_rfl
theorem row12k24b : (Rows.booksFinalRow.lifted == Tryz.prog.liftsFinal) = true := by kernel_rfl
theorem row12k24c : (Tryz.prog.make == some Rows.booksFinalRow.make) = true := by kernel_rfl
theorem row12a : joinedFacts Tryz.prog 12 Tryz.f12 Rows.booksFinalSpec Rows.booksFinalRow = true := by
  simp only [joinedFacts, Bool.and_eq_true]
  refine ⟨⟨⟨⟨⟨⟨⟨⟨⟨⟨⟨⟨⟨⟨⟨⟨⟨⟨⟨⟨⟨⟨⟨⟨⟨⟨⟨⟨⟨⟨⟨?_, ?_⟩, ?_⟩, ?_⟩, ?_⟩, ?_⟩, ?_⟩, ?_⟩, ?_⟩, ?_⟩, ?_⟩, ?_⟩, ?_⟩, ?_⟩, ?_⟩, ?_⟩, ?_⟩, ?_⟩, ?_⟩, ?_⟩, ?_⟩, ?_⟩, ?_⟩, ?_⟩, ?_⟩, ?_⟩, ?_⟩, ?_⟩, ?_⟩, ?_⟩, ?_⟩, ?_⟩
  · kernel_rfl
  · exact lawOut
  · exact law3
  · kernel_rfl
  · exact row12k5
  · kernel_rfl
  · exact law7
  · kernel_rfl
  · exact law9
  · exact row12k10
  · exact row12k11
  · exact row12k12
  · exact row12k13
  · kernel_rfl
  · kernel_rfl
  · kernel_rfl
  · kernel_rfl
  · kernel_rfl
  · kernel_rfl
  · kernel_rfl
  · kernel_rfl
  · kernel_rfl
  · exact row12k22
  · kernel_rfl
  · exact law23b
  · exact law24
  · exact row12k24b
  · exact row12k24c
  · kernel_rfl
  · kernel_rfl
  · kernel_rfl
  · kernel_rfl
theorem row12b : Tryz.f12.isInstance Tryz.prog Rows.booksFinalRow.origin Rows.booksFinalRow.targs := of_decide_eq_true (by kernel_rfl)
theorem row12c : Tryz.f12.isWrapper Tryz.prog Rows.booksFinalRow.wrapper Rows.booksFinalRow.mainSum := by unfold Func.isWrapper; rw [if_neg (of_decide_eq_false (by kernel_rfl))]; exact ⟨rfl, rfl⟩
theorem row12d : Tryz.pinned.checked.prog.funcNamed Rows.booksFinalRow.func = some 12 := by kernel_rfl
theorem row12 : Rows.BooksFinalSaid :=
  OpenClaim.holds_of_wide (p := Tryz.pinned) (s := Rows.booksFinalSpec) (c := Rows.booksFinalRow) 12 Tryz.f12 rfl rfl rfl rfl rfl rfl rfl ⟨rfl, rfl, rfl, rfl, rfl⟩ rfl rfl rfl rfl rfl row12d Tryz.func12 row12a row12b row12c
    (fun os started H enc _ => lift12 os started H enc)
theorem row12e : (Rows.booksFinalRow).wfByText (OpenSpec.ofChange Rows.booksFinalSpec) = true := by kernel_rfl
theorem row12f : Tryz.pinned.checked.prog.mainIs = some (Rows.booksFinalCard.stood.harness.1, Rows.booksFinalCard.stood.harness.2.toList) := by kernel_rfl
theorem row12i : (Tryz.f12.params.toList.all fun u => !Tryz.prog.wantsStandIn u) = true := by kernel_rfl
theorem row12h : false = (Rows.booksFinalRow).goesBy Tryz.pinned.checked.prog := by kernel_rfl
theorem row12g : true = Tryz.pinned.checked.prog.looks [] := by kernel_rfl
theorem row12j : ∀ f fn, Tryz.pinned.checked.prog.funcNamed Rows.booksFinalRow.func = some f → Tryz.pinned.checked.prog.funcs[f]? = some fn → true = Tryz.pinned.checked.prog.looks [] ∧ ∀ (j : Nat) t, fn.params[j]? = some t → Tryz.pinned.checked.prog.wantsStandIn t = false := fun f fn hf hfn => by
  obtain rfl : f = 12 := Option.some.inj (row12d.symm.trans hf) |>.symm
  obtain rfl : fn = Tryz.f12 := (Option.some.inj (Tryz.func12.symm.trans hfn)).symm
  exact ⟨row12g, fun j t ht => by
    have hm : t ∈ Tryz.f12.params.toList := by simpa using Array.mem_of_getElem? ht
    exact (show Tryz.prog.wantsStandIn t = false by simpa using List.all_eq_true.1 row12i t hm)⟩
end Go.Proofs.YtcibbcfiemeoiaaGreatDoor
