/- A session that is opened with a log executes lines as the reference does, for every log and lines that the statement takes; others are passed over. Conditions: the listed tables of the library start as the program's text lays them. -/
import Derived.Test.YtcibbcfiemeoiaaGreatDoorClose
import Derived.Test.YtcibbcfiemeoiaaGreatDoorLaw6A
namespace Go.Proofs.YtcibbcfiemeoiaaGreatDoor
open Go Go.Sx Go.RowKit Go.ChangeShapes
set_option maxRecDepth 100000
theorem lift6 (os : Os) (started : os.Started) (H : Type) (enc : TypeId × Value → H) :
    ReturnsInHanded {} Tryz.checked os 6 .any (fun w args => (Rows.booksSessionsSpec.pre enc Tryz.prog Tryz.f6 [] false w args ∧ laidMetH Tryz.prog laid7 w) ∧ sizedMet enc Tryz.prog Tryz.f6 (OpenSpec.ofChange Rows.booksSessionsSpec) false w args)
      (Rows.booksSessionsSpec.post enc Tryz.prog Tryz.f6 false true false false) := by
  refine handed_shaped (C := Tryz.checked) (X := fun w _ => laidMetH Tryz.prog laid7 w) (fun _ _ _ hh h => h.of_heap hh) lawOwn started (by kernel_rfl) Tryz.func6
    (ChangeSpec.witness_shaped (enc := enc) (C := Tryz.checked) (os := os) (X := fun w _ => laidMetH Tryz.prog laid7 w) false (World.laidAll Tryz.prog os laid7) #[.string ⟨#[]⟩, .slice none 0 0] 8 (World.laidAll_os _ _ _)
      (World.shaped_of_ZipB (by kernel_rfl) (by kernel_rfl)) (by kernel_rfl) (by kernel_rfl) (by kernel_rfl)
      (by rw [MakeChecks.laidMetH_plain _ _ _ (by kernel_rfl)]; exact laidMet_laidAll _ (by kernel_rfl) (by kernel_rfl))) ?_
  intro W base args ds gs before hsh hval hW hL
  refine law_calls (tb := 4) ok6 (fun x h => ?_) lawOut (by kernel_rfl) (by kernel_rfl) (by kernel_rfl) Tryz.underlying4 rfl (fun ds hl => ?_) (lawTab hL hsh) hval hW
  · exact trivial
  · match ds, hl with
    | [_, _], _ => rfl
theorem row6k10 : (Rows.booksSessionsRow.inPlace == Tryz.prog.inPlace 6) = true := by kernel_rfl
theorem row6k11 : (Rows.booksSessionsRow.unfollowed == Tryz.prog.unfollowed 6) = true := by kernel_rfl
theorem row6k12 : (Rows.booksSessionsRow.recurses == Tryz.prog.recurses 6) = true := by kernel_rfl
theorem row6k13 : (Rows.booksSessionsRow.named == Tryz.prog.varsNamed 6) = true := by kernel_rfl
theorem row6k5 : namedTie Tryz.prog Rows.booksSessionsRow.named Rows.booksSessionsSpec.vars = true := by kernel_rfl
theorem row6k22 : (Rows.booksSessionsRow.plainKeys == Tryz.prog.plainKeys) = true := by kernel_rfl
theorem row6k24b : (Rows.booksSessionsRow.lifted == Tryz.prog.liftsFinal) = true := by kernel_rfl
theorem row6k24c : (Tryz.prog.make == some Rows.booksSessionsRow.make) = true := by kernel_rfl
theorem row6a : joinedFacts Tryz.prog 6 Tryz.f6 Rows.booksSessionsSpec Rows.booksSessionsRow = true := by
  simp only [joinedFacts, Bool.and_eq_true]
  refine ⟨⟨⟨⟨⟨⟨⟨⟨⟨⟨⟨⟨⟨⟨⟨⟨⟨⟨⟨⟨⟨⟨⟨⟨⟨⟨⟨⟨⟨⟨⟨?_, ?_⟩, ?_⟩, ?_⟩, ?_⟩, ?_⟩, ?_⟩, ?_⟩, ?_⟩, ?_⟩, ?_⟩, ?_⟩, ?_⟩, ?_⟩, ?_⟩, ?_⟩, ?_⟩, ?_⟩, ?_⟩, ?_⟩, ?_⟩, ?_⟩, ?_⟩, ?_⟩, ?_⟩, ?_⟩, ?_⟩, ?_⟩, ?_⟩, ?_⟩, ?_⟩, ?_⟩
  · kernel_rfl
  · exact lawOut
  · exact law3
  · kernel_rfl
  · exact row6k5
  · kernel_rfl
  · exact law7
  · kernel_rfl
  · exact law9
  · exact row6k10
  · exact row6k11
  · exact row6k12
  · exact row6k13
  · kernel_rfl
  · kernel_rfl
  · kernel_rfl
  · kernel_rfl
  · kernel_rfl
  · kernel_rfl
  · kernel_rfl
  · kernel_rfl
  · kernel_rfl
  · exact row6k22
  · kernel_rfl
  · exact law23b
  · exact law24
  · exact row6k24b
  · exact row6k24c
  · kernel_rfl
  · kernel_rfl
  · kernel_rfl
  · kernel_rfl
theorem row6b : Tryz.f6.isInstance Tryz.prog Rows.booksSessionsRow.origin Rows.booksSessionsRow.targs := of_decide_eq_true (by kernel_rfl)
theorem row6c : Tryz.f6.isWrapper Tryz.prog Rows.booksSessionsRow.wrapper Rows.booksSessionsRow.mainSum := by unfold Func.isWrapper; rw [if_neg (of_decide_eq_false (by kernel_rfl))]; exact ⟨rfl, rfl⟩
theorem row6d : Tryz.pinned.checked.prog.funcNamed Rows.booksSessionsRow.func = some 6 := by kernel_rfl
theorem row6 : Rows.BooksSessionsSaid :=
  OpenClaim.holds_of_wide (p := Tryz.pinned) (s := Rows.booksSessionsSpec) (c := Rows.booksSessionsRow) 6 Tryz.f6 rfl rfl rfl rfl rfl rfl rfl ⟨rfl, rfl, rfl, rfl, rfl⟩ rfl rfl rfl rfl rfl row6d Tryz.func6 row6a row6b row6c
    (fun os started H enc _ => lift6 os started H enc)
theorem row6e : (Rows.booksSessionsRow).wfByText (OpenSpec.ofChange Rows.booksSessionsSpec) = true := by kernel_rfl
theorem row6f : Tryz.pinned.checked.prog.mainIs = some (Rows.booksSessionsCard.stood.harness.1, Rows.booksSessionsCard.stood.harness.2.toList) := by kernel_rfl
theorem row6i : (Tryz.f6.params.toList.all fun u => !Tryz.prog.wantsStandIn u) = true := by kernel_rfl
theorem row6h : false = (Rows.booksSessionsRow).goesBy Tryz.pinned.checked.prog := by kernel_rfl
theorem row6g : true = Tryz.pinned.checked.prog.looks [] := by kernel_rfl
theorem row6j : ∀ f fn, Tryz.pinned.checked.prog.funcNamed Rows.booksSessionsRow.func = some f → Tryz.pinned.checked.prog.funcs[f]? = some fn → true = Tryz.pinned.checked.prog.looks [] ∧ ∀ (j : Nat) t, fn.params[j]? = some t → Tryz.pinned.checked.prog.wantsStandIn t = false := fun f fn hf hfn => by
  obtain rfl : f = 6 := Option.some.inj (row6d.symm.trans hf) |>.symm
  obtain rfl : fn = Tryz.f6 := (Option.some.inj (Tryz.func6.symm.trans hfn)).symm
  exact ⟨row6g, fun j t ht => by
    have hm : t ∈ Tryz.f6.params.toList := by simpa using Array.mem_of_getElem? ht
    exact (show Tryz.prog.wantsStandIn t = false by simpa using List.all_eq_true.1 row6i t hm)⟩
end Go.Proofs.YtcibbcfiemeoiaaGreatDoor
