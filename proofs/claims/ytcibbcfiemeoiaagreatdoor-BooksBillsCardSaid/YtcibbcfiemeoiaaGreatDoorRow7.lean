/- Bills, accounts, balances and losses answer as the reference does, for every list of events and names that the statement takes; others are passed over. Conditions: the listed tables of the library start as the program's text lays them. -/
import Derived.Test.YtcibbcfiemeoiaaGreatDoorClose
import Derived.Test.YtcibbcfiemeoiaaGreatDoorLaw7A
namespace Go.Proofs.YtcibbcfiemeoiaaGreatDoor
open Go Go.Sx Go.RowKit Go.ChangeShapes
set_option maxRecDepth 100000
theorem lift7 (os : Os) (started : os.Started) (H : Type) (enc : TypeId × Value → H) :
    ReturnsInHanded {} Tryz.checked os 7 .any (fun w args => (Rows.booksBillsSpec.pre enc Tryz.prog Tryz.f7 [] false w args ∧ laidMetH Tryz.prog laid7 w) ∧ sizedMet enc Tryz.prog Tryz.f7 (OpenSpec.ofChange Rows.booksBillsSpec) false w args)
      (Rows.booksBillsSpec.post enc Tryz.prog Tryz.f7 false true false false) := by
  refine handed_shaped (C := Tryz.checked) (X := fun w _ => laidMetH Tryz.prog laid7 w) (fun _ _ _ hh h => h.of_heap hh) lawOwn started (by kernel_rfl) Tryz.func7
    (ChangeSpec.witness_shaped (enc := enc) (C := Tryz.checked) (os := os) (X := fun w _ => laidMetH Tryz.prog laid7 w) false (World.laidAll Tryz.prog os laid7) #[.slice none 0 0, .string ⟨#[]⟩, .string ⟨#[]⟩] 8 (World.laidAll_os _ _ _)
      (World.shaped_of_ZipB (by kernel_rfl) (by kernel_rfl)) (by kernel_rfl) (by kernel_rfl) (by kernel_rfl)
      (by rw [MakeChecks.laidMetH_plain _ _ _ (by kernel_rfl)]; exact laidMet_laidAll _ (by kernel_rfl) (by kernel_rfl))) ?_
  intro W base args ds gs before hsh hval hW hL
  refine law_calls (tb := 4) ok7 (fun x h => ?_) lawOut (by kernel_rfl) (by kernel_rfl) (by kernel_rfl) Tryz.underlying4 rfl (fun ds hl => ?_) (lawTab hL hsh) hval hW
  · exact trivial
  · match ds, hl with
    | [_, _, _], _ => rfl
theorem row7k10 : (Rows.booksBillsRow.inPlace == Tryz.prog.inPlace 7) = true := by kernel_rfl
theorem row7k11 : (Rows.booksBillsRow.unfollowed == Tryz.prog.unfollowed 7) = true := by kernel_rfl
theorem row7k12 : (Rows.booksBillsRow.recurses == Tryz.prog.recurses 7) = true := by kernel_rfl
theorem row7k13 : (Rows.booksBillsRow.named == Tryz.prog.varsNamed 7) = true := by kernel_rfl
theorem row7k5 : namedTie Tryz.prog Rows.booksBillsRow.named Rows.booksBillsSpec.vars = true := by kernel_rfl
theorem row7k22 : (Rows.booksBillsRow.plainKeys == Tryz.prog.plainKeys) = true := by kernel_rfl
theorem row7k24b : (Rows.booksBillsRow.lifted == Tryz.prog.liftsFinal) = true := by kernel_rfl
theorem row7k24c : (Tryz.prog.make == some Rows.booksBillsRow.make) = true := by kernel_rfl
theorem row7a : joinedFacts Tryz.prog 7 Tryz.f7 Rows.booksBillsSpec Rows.booksBillsRow = true := by
  simp only [joinedFacts, Bool.and_eq_true]
  refine ⟨⟨⟨⟨⟨⟨⟨⟨⟨⟨⟨⟨⟨⟨⟨⟨⟨⟨⟨⟨⟨⟨⟨⟨⟨⟨⟨⟨⟨⟨⟨?_, ?_⟩, ?_⟩, ?_⟩, ?_⟩, ?_⟩, ?_⟩, ?_⟩, ?_⟩, ?_⟩, ?_⟩, ?_⟩, ?_⟩, ?_⟩, ?_⟩, ?_⟩, ?_⟩, ?_⟩, ?_⟩, ?_⟩, ?_⟩, ?_⟩, ?_⟩, ?_⟩, ?_⟩, ?_⟩, ?_⟩, ?_⟩, ?_⟩, ?_⟩, ?_⟩, ?_⟩
  · kernel_rfl
  · exact lawOut
  · exact law3
  · kernel_rfl
  · exact row7k5
  · kernel_rfl
  · exact law7
  · kernel_rfl
  · exact law9
  · exact row7k10
  · exact row7k11
  · exact row7k12
  · exact row7k13
  · kernel_rfl
  · kernel_rfl
  · kernel_rfl
  · kernel_rfl
  · kernel_rfl
  · kernel_rfl
  · kernel_rfl
  · kernel_rfl
  · kernel_rfl
  · exact row7k22
  · kernel_rfl
  · exact law23b
  · exact law24
  · exact row7k24b
  · exact row7k24c
  · kernel_rfl
  · kernel_rfl
  · kernel_rfl
  · kernel_rfl
theorem row7b : Tryz.f7.isInstance Tryz.prog Rows.booksBillsRow.origin Rows.booksBillsRow.targs := of_decide_eq_true (by kernel_rfl)
theorem row7c : Tryz.f7.isWrapper Tryz.prog Rows.booksBillsRow.wrapper Rows.booksBillsRow.mainSum := by unfold Func.isWrapper; rw [if_neg (of_decide_eq_false (by kernel_rfl))]; exact ⟨rfl, rfl⟩
theorem row7d : Tryz.pinned.checked.prog.funcNamed Rows.booksBillsRow.func = some 7 := by kernel_rfl
theorem row7 : Rows.BooksBillsSaid :=
  OpenClaim.holds_of_wide (p := Tryz.pinned) (s := Rows.booksBillsSpec) (c := Rows.booksBillsRow) 7 Tryz.f7 rfl rfl rfl rfl rfl rfl rfl ⟨rfl, rfl, rfl, rfl, rfl⟩ rfl rfl rfl rfl rfl row7d Tryz.func7 row7a row7b row7c
    (fun os started H enc _ => lift7 os started H enc)
theorem row7e : (Rows.booksBillsRow).wfByText (OpenSpec.ofChange Rows.booksBillsSpec) = true := by kernel_rfl
theorem row7f : Tryz.pinned.checked.prog.mainIs = some (Rows.booksBillsCard.stood.harness.1, Rows.booksBillsCard.stood.harness.2.toList) := by kernel_rfl
theorem row7i : (Tryz.f7.params.toList.all fun u => !Tryz.prog.wantsStandIn u) = true := by kernel_rfl
theorem row7h : false = (Rows.booksBillsRow).goesBy Tryz.pinned.checked.prog := by kernel_rfl
theorem row7g : true = Tryz.pinned.checked.prog.looks [] := by kernel_rfl
theorem row7j : ∀ f fn, Tryz.pinned.checked.prog.funcNamed Rows.booksBillsRow.func = some f → Tryz.pinned.checked.prog.funcs[f]? = some fn → true = Tryz.pinned.checked.prog.looks [] ∧ ∀ (j : Nat) t, fn.params[j]? = some t → Tryz.pinned.checked.prog.wantsStandIn t = false := fun f fn hf hfn => by
  obtain rfl : f = 7 := Option.some.inj (row7d.symm.trans hf) |>.symm
  obtain rfl : fn = Tryz.f7 := (Option.some.inj (Tryz.func7.symm.trans hfn)).symm
  exact ⟨row7g, fun j t ht => by
    have hm : t ∈ Tryz.f7.params.toList := by simpa using Array.mem_of_getElem? ht
    exact (show Tryz.prog.wantsStandIn t = false by simpa using List.all_eq_true.1 row7i t hm)⟩
end Go.Proofs.YtcibbcfiemeoiaaGreatDoor
