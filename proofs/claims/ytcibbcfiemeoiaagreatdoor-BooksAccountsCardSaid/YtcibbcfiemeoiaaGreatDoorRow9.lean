/- Accounts, balances, bills, hours and losses of a journal fit each other: for every journal that the statement takes; others are passed over. Conditions: the listed tables of the library start as the program's text lays them. -/
import Derived.Test.YtcibbcfiemeoiaaGreatDoorClose
import Derived.Test.YtcibbcfiemeoiaaGreatDoorLaw9A
namespace Go.Proofs.YtcibbcfiemeoiaaGreatDoor
open Go Go.Sx Go.RowKit Go.ChangeShapes
set_option maxRecDepth 100000
theorem lift9 (os : Os) (started : os.Started) (H : Type) (enc : TypeId × Value → H) :
    ReturnsInHanded {} Tryz.checked os 9 .any (fun w args => (Rows.booksAccountsSpec.pre enc Tryz.prog Tryz.f9 [] false w args ∧ laidMetH Tryz.prog laid7 w) ∧ sizedMet enc Tryz.prog Tryz.f9 (OpenSpec.ofChange Rows.booksAccountsSpec) false w args)
      (Rows.booksAccountsSpec.post enc Tryz.prog Tryz.f9 false true false false) := by
  refine handed_shaped (C := Tryz.checked) (X := fun w _ => laidMetH Tryz.prog laid7 w) (fun _ _ _ hh h => h.of_heap hh) lawOwn started (by kernel_rfl) Tryz.func9
    (ChangeSpec.witness_shaped (enc := enc) (C := Tryz.checked) (os := os) (X := fun w _ => laidMetH Tryz.prog laid7 w) false (World.laidAll Tryz.prog os laid7) #[.slice none 0 0] 8 (World.laidAll_os _ _ _)
      (World.shaped_of_ZipB (by kernel_rfl) (by kernel_rfl)) (by kernel_rfl) (by kernel_rfl) (by kernel_rfl)
      (by rw [MakeChecks.laidMetH_plain _ _ _ (by kernel_rfl)]; exact laidMet_laidAll _ (by kernel_rfl) (by kernel_rfl))) ?_
  intro W base args ds gs before hsh hval hW hL
  refine law_calls (tb := 4) ok9 (fun x h => ?_) lawOut (by kernel_rfl) (by kernel_rfl) (by kernel_rfl) Tryz.underlying4 rfl (fun ds hl => ?_) (lawTab hL hsh) hval hW
  · exact trivial
  · match ds, hl with
    | [_], _ => rfl
theorem row9k10 : (Rows.booksAccountsRow.inPlace == Tryz.prog.inPlace 9) = true := by kernel_rfl
theorem row9k11 : (Rows.booksAccountsRow.unfollowed == Tryz.prog.unfollowed 9) = true := by kernel_rfl
theorem row9k12 : (Rows.booksAccountsRow.recurses == Tryz.prog.recurses 9) = true := by kernel_rfl
theorem row9k13 : (Rows.booksAccountsRow.named == Tryz.prog.varsNamed 9) = true := by kernel_rfl
theorem row9k5 : namedTie Tryz.prog Rows.booksAccountsRow.named Rows.booksAccountsSpec.vars = true := by kernel_rfl
theorem row9k22 : (Rows.booksAccountsRow.plainKeys == Tryz.prog.plainKeys) = true := by kernel_rfl
theorem row9k24b : (Rows.booksAccountsRow.lifted == Tryz.prog.liftsFinal) = true := by kernel_rfl
theorem row9k24c : (Tryz.prog.make == some Rows.booksAccountsRow.make) = true := by kernel_rfl
theorem row9a : joinedFacts Tryz.prog 9 Tryz.f9 Rows.booksAccountsSpec Rows.booksAccountsRow = true := by
  simp only [joinedFacts, Bool.and_eq_true]
  refine ⟨⟨⟨⟨⟨⟨⟨⟨⟨⟨⟨⟨⟨⟨⟨⟨⟨⟨⟨⟨⟨⟨⟨⟨⟨⟨⟨⟨⟨⟨⟨?_, ?_⟩, ?_⟩, ?_⟩, ?_⟩, ?_⟩, ?_⟩, ?_⟩, ?_⟩, ?_⟩, ?_⟩, ?_⟩, ?_⟩, ?_⟩, ?_⟩, ?_⟩, ?_⟩, ?_⟩, ?_⟩, ?_⟩, ?_⟩, ?_⟩, ?_⟩, ?_⟩, ?_⟩, ?_⟩, ?_⟩, ?_⟩, ?_⟩, ?_⟩, ?_⟩, ?_⟩
  · kernel_rfl
  · exact lawOut
  · exact law3
  · kernel_rfl
  · exact row9k5
  · kernel_rfl
  · exact law7
  · kernel_rfl
  · exact law9
  · exact row9k10
  · exact row9k11
  · exact row9k12
  · exact row9k13
  · kernel_rfl
  · kernel_rfl
  · kernel_rfl
  · kernel_rfl
  · kernel_rfl
  · kernel_rfl
  · kernel_rfl
  · kernel_rfl
  · kernel_rfl
  · exact row9k22
  · kernel_rfl
  · exact law23b
  · exact law24
  · exact row9k24b
  · exact row9k24c
  · kernel_rfl
  · kernel_rfl
  · kernel_rfl
  · kernel_rfl
theorem row9b : Tryz.f9.isInstance Tryz.prog Rows.booksAccountsRow.origin Rows.booksAccountsRow.targs := of_decide_eq_true (by kernel_rfl)
theorem row9c : Tryz.f9.isWrapper Tryz.prog Rows.booksAccountsRow.wrapper Rows.booksAccountsRow.mainSum := by unfold Func.isWrapper; rw [if_neg (of_decide_eq_false (by kernel_rfl))]; exact ⟨rfl, rfl⟩
theorem row9d : Tryz.pinned.checked.prog.funcNamed Rows.booksAccountsRow.func = some 9 := by kernel_rfl
theorem row9 : Rows.BooksAccountsSaid :=
  OpenClaim.holds_of_wide (p := Tryz.pinned) (s := Rows.booksAccountsSpec) (c := Rows.booksAccountsRow) 9 Tryz.f9 rfl rfl rfl rfl rfl rfl rfl ⟨rfl, rfl, rfl, rfl, rfl⟩ rfl rfl rfl rfl rfl row9d Tryz.func9 row9a row9b row9c
    (fun os started H enc _ => lift9 os started H enc)
theorem row9e : (Rows.booksAccountsRow).wfByText (OpenSpec.ofChange Rows.booksAccountsSpec) = true := by kernel_rfl
theorem row9f : Tryz.pinned.checked.prog.mainIs = some (Rows.booksAccountsCard.stood.harness.1, Rows.booksAccountsCard.stood.harness.2.toList) := by kernel_rfl
theorem row9i : (Tryz.f9.params.toList.all fun u => !Tryz.prog.wantsStandIn u) = true := by kernel_rfl
theorem row9h : false = (Rows.booksAccountsRow).goesBy Tryz.pinned.checked.prog := by kernel_rfl
theorem row9g : true = Tryz.pinned.checked.prog.looks [] := by kernel_rfl
theorem row9j : ∀ f fn, Tryz.pinned.checked.prog.funcNamed Rows.booksAccountsRow.func = some f → Tryz.pinned.checked.prog.funcs[f]? = some fn → true = Tryz.pinned.checked.prog.looks [] ∧ ∀ (j : Nat) t, fn.params[j]? = some t → Tryz.pinned.checked.prog.wantsStandIn t = false := fun f fn hf hfn => by
  obtain rfl : f = 9 := Option.some.inj (row9d.symm.trans hf) |>.symm
  obtain rfl : fn = Tryz.f9 := (Option.some.inj (Tryz.func9.symm.trans hfn)).symm
  exact ⟨row9g, fun j t ht => by
    have hm : t ∈ Tryz.f9.params.toList := by simpa using Array.mem_of_getElem? ht
    exact (show Tryz.prog.wantsStandIn t = false by simpa using List.all_eq_true.1 row9i t hm)⟩
end Go.Proofs.YtcibbcfiemeoiaaGreatDoor
