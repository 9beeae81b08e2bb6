/- Appending an event to a log and recovering a log answer as the reference does, for every event with short strings and every log of at most 1500 bytes; others are passed over. Conditions: the listed tables of the library start as the program's text lays them. -/
import Derived.Test.YtcibbcfiemeoiaaGreatDoorClose
import Derived.Test.YtcibbcfiemeoiaaGreatDoorLaw5A
namespace Go.Proofs.YtcibbcfiemeoiaaGreatDoor
open Go Go.Sx Go.RowKit Go.ChangeShapes
set_option maxRecDepth 100000
theorem lift5 (os : Os) (started : os.Started) (H : Type) (enc : TypeId × Value → H) :
    ReturnsInHanded {} Tryz.checked os 5 .any (fun w args => (Rows.booksLogsSpec.pre enc Tryz.prog Tryz.f5 [] false w args ∧ laidMetH Tryz.prog laid7 w) ∧ sizedMet enc Tryz.prog Tryz.f5 (OpenSpec.ofChange Rows.booksLogsSpec) false w args)
      (Rows.booksLogsSpec.post enc Tryz.prog Tryz.f5 false true false false) := by
  refine handed_shaped (C := Tryz.checked) (X := fun w _ => laidMetH Tryz.prog laid7 w) (fun _ _ _ hh h => h.of_heap hh) lawOwn started (by kernel_rfl) Tryz.func5
    (ChangeSpec.witness_shaped (enc := enc) (C := Tryz.checked) (os := os) (X := fun w _ => laidMetH Tryz.prog laid7 w) false (World.laidAll Tryz.prog os laid7) #[.agg #[.int .i64 0, .string ⟨#[]⟩, .slice none 0 0, .slice none 0 0, .string ⟨#[]⟩], .string ⟨#[]⟩] 8 (World.laidAll_os _ _ _)
      (World.shaped_of_ZipB (by kernel_rfl) (by kernel_rfl)) (by kernel_rfl) (by kernel_rfl) (by kernel_rfl)
      (by rw [MakeChecks.laidMetH_plain _ _ _ (by kernel_rfl)]; exact laidMet_laidAll _ (by kernel_rfl) (by kernel_rfl))) ?_
  intro W base args ds gs before hsh hval hW hL
  refine law_calls (tb := 4) ok5 (fun x h => ?_) lawOut (by kernel_rfl) (by kernel_rfl) (by kernel_rfl) Tryz.underlying4 rfl (fun ds hl => ?_) (lawTab hL hsh) hval hW
  · exact trivial
  · match ds, hl with
    | [_, _], _ => rfl
theorem row5k10 : (Rows.booksLogsRow.inPlace == Tryz.prog.inPlace 5) = true := by kernel_rfl
theorem row5k11 : (Rows.booksLogsRow.unfollowed == Tryz.prog.unfollowed 5) = true := by kernel_rfl
theorem row5k12 : (Rows.booksLogsRow.recurses == Tryz.prog.recurses 5) = true := by kernel_rfl
theorem row5k13 : (Rows.booksLogsRow.named == Tryz.prog.varsNamed 5) = true := by kernel_rfl
theorem row5k5 : namedTie Tryz.prog Rows.booksLogsRow.named Rows.booksLogsSpec.vars = true := by kernel_rfl
theorem row5k22 : (Rows.booksLogsRow.plainKeys == Tryz.prog.plainKeys) = true := by kernel_rfl
theorem row5k24b : (Rows.booksLogsRow.lifted == Tryz.prog.liftsFinal) = true := by kernel_rfl
theorem row5k24c : (Tryz.prog.make == some Rows.booksLogsRow.make) = true := by kernel_rfl
theorem row5a : joinedFacts Tryz.prog 5 Tryz.f5 Rows.booksLogsSpec Rows.booksLogsRow = true := by
  simp only [joinedFacts, Bool.and_eq_true]
  refine ⟨⟨⟨⟨⟨⟨⟨⟨⟨⟨⟨⟨⟨⟨⟨⟨⟨⟨⟨⟨⟨⟨⟨⟨⟨⟨⟨⟨⟨⟨⟨?_, ?_⟩, ?_⟩, ?_⟩, ?_⟩, ?_⟩, ?_⟩, ?_⟩, ?_⟩, ?_⟩, ?_⟩, ?_⟩, ?_⟩, ?_⟩, ?_⟩, ?_⟩, ?_⟩, ?_⟩, ?_⟩, ?_⟩, ?_⟩, ?_⟩, ?_⟩, ?_⟩, ?_⟩, ?_⟩, ?_⟩, ?_⟩, ?_⟩, ?_⟩, ?_⟩, ?_⟩
  · kernel_rfl
  · exact lawOut
  · exact law3
  · kernel_rfl
  · exact row5k5
  · kernel_rfl
  · exact law7
  · kernel_rfl
  · exact law9
  · exact row5k10
  · exact row5k11
  · exact row5k12
  · exact row5k13
  · kernel_rfl
  · kernel_rfl
  · kernel_rfl
  · kernel_rfl
  · kernel_rfl
  · kernel_rfl
  · kernel_rfl
  · kernel_rfl
  · kernel_rfl
  · exact row5k22
  · kernel_rfl
  · exact law23b
  · exact law24
  · exact row5k24b
  · exact row5k24c
  · kernel_rfl
  · kernel_rfl
  · kernel_rfl
  · kernel_rfl
theorem row5b : Tryz.f5.isInstance Tryz.prog Rows.booksLogsRow.origin Rows.booksLogsRow.targs := of_decide_eq_true (by kernel_rfl)
theorem row5c : Tryz.f5.isWrapper Tryz.prog Rows.booksLogsRow.wrapper Rows.booksLogsRow.mainSum := by unfold Func.isWrapper; rw [if_neg (of_decide_eq_false (by kernel_rfl))]; exact ⟨rfl, rfl⟩
theorem row5d : Tryz.pinned.checked.prog.funcNamed Rows.booksLogsRow.func = some 5 := by kernel_rfl
theorem row5 : Rows.BooksLogsSaid :=
  OpenClaim.holds_of_wide (p := Tryz.pinned) (s := Rows.booksLogsSpec) (c := Rows.booksLogsRow) 5 Tryz.f5 rfl rfl rfl rfl rfl rfl rfl ⟨rfl, rfl, rfl, rfl, rfl⟩ rfl rfl rfl rfl rfl row5d Tryz.func5 row5a row5b row5c
    (fun os started H enc _ => lift5 os started H enc)
theorem row5e : (Rows.booksLogsRow).wfByText (OpenSpec.ofChange Rows.booksLogsSpec) = true := by kernel_rfl
theorem row5f : Tryz.pinned.checked.prog.mainIs = some (Rows.booksLogsCard.stood.harness.1, Rows.booksLogsCard.stood.harness.2.toList) := by kernel_rfl
theorem row5i : (Tryz.f5.params.toList.all fun u => !Tryz.prog.wantsStandIn u) = true := by kernel_rfl
theorem row5h : false = (Rows.booksLogsRow).goesBy Tryz.pinned.checked.prog := by kernel_rfl
theorem row5g : true = Tryz.pinned.checked.prog.looks [] := by kernel_rfl
theorem row5j : ∀ f fn, Tryz.pinned.checked.prog.funcNamed Rows.booksLogsRow.func = some f → Tryz.pinned.checked.prog.funcs[f]? = some fn → true = Tryz.pinned.checked.prog.looks [] ∧ ∀ (j : Nat) t, fn.params[j]? = some t → Tryz.pinned.checked.prog.wantsStandIn t = false := fun f fn hf hfn => by
  obtain rfl : f = 5 := Option.some.inj (row5d.symm.trans hf) |>.symm
  obtain rfl : fn = Tryz.f5 := (Option.some.inj (Tryz.func5.symm.trans hfn)).symm
  exact ⟨row5g, fun j t ht => by
    have hm : t ∈ Tryz.f5.params.toList := by simpa using Array.mem_of_getElem? ht
    exact (show Tryz.prog.wantsStandIn t = false by simpa using List.all_eq_true.1 row5i t hm)⟩
end Go.Proofs.YtcibbcfiemeoiaaGreatDoor
