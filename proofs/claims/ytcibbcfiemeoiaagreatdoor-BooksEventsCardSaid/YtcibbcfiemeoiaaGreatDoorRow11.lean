/- Checks, replays, acceptance and registers as of a tick answer as the reference does, for every list of events and event that the statement takes, and every tick; others are passed over. Conditions: the listed tables of the library start as the program's text lays them. -/
import Derived.Test.YtcibbcfiemeoiaaGreatDoorClose
import Derived.Test.YtcibbcfiemeoiaaGreatDoorLaw11A
namespace Go.Proofs.YtcibbcfiemeoiaaGreatDoor
open Go Go.Sx Go.RowKit Go.ChangeShapes
set_option maxRecDepth 100000
theorem lift11 (os : Os) (started : os.Started) (H : Type) (enc : TypeId × Value → H) :
    ReturnsInHanded {} Tryz.checked os 11 .any (fun w args => (Rows.booksEventsSpec.pre enc Tryz.prog Tryz.f11 [] false w args ∧ laidMetH Tryz.prog laid7 w) ∧ sizedMet enc Tryz.prog Tryz.f11 (OpenSpec.ofChange Rows.booksEventsSpec) false w args)
      (Rows.booksEventsSpec.post enc Tryz.prog Tryz.f11 false true false false) := by
  refine handed_shaped (C := Tryz.checked) (X := fun w _ => laidMetH Tryz.prog laid7 w) (fun _ _ _ hh h => h.of_heap hh) lawOwn started (by kernel_rfl) Tryz.func11
    (ChangeSpec.witness_shaped (enc := enc) (C := Tryz.checked) (os := os) (X := fun w _ => laidMetH Tryz.prog laid7 w) false (World.laidAll Tryz.prog os laid7) #[.slice none 0 0, .agg #[.int .i64 0, .string ⟨#[]⟩, .slice none 0 0, .slice none 0 0, .string ⟨#[]⟩], .int .i64 0] 8 (World.laidAll_os _ _ _)
      (World.shaped_of_ZipB (by kernel_rfl) (by kernel_rfl)) (by kernel_rfl) (by kernel_rfl) (by kernel_rfl)
      (by rw [MakeChecks.laidMetH_plain _ _ _ (by kernel_rfl)]; exact laidMet_laidAll _ (by kernel_rfl) (by kernel_rfl))) ?_
  intro W base args ds gs before hsh hval hW hL
  refine law_calls (tb := 4) ok11 (fun x h => ?_) lawOut (by kernel_rfl) (by kernel_rfl) (by kernel_rfl) Tryz.underlying4 rfl (fun ds hl => ?_) (lawTab hL hsh) hval hW
  · exact trivial
  · match ds, hl with
    | [_, _, _], _ => rfl
theorem row11k10 : (Rows.booksEventsRow.inPlace == Tryz.prog.inPlace 11) = true := by kernel_rfl
theorem row11k11 : (Rows.booksEventsRow.unfollowed == Tryz.prog.unfollowed 11) = true := by kernel_rfl
theorem row11k12 : (Rows.booksEventsRow.recurses == Tryz.prog.recurses 11) = true := by kernel_rfl
theorem row11k13 : (Rows.booksEventsRow.named == Tryz.prog.varsNamed 11) = true := by kernel_rfl
theorem row11k5 : namedTie Tryz.prog Rows.booksEventsRow.named Rows.booksEventsSpec.vars = true := by kernel_rfl
theorem row11k22 : (Rows.booksEventsRow.plainKeys == Tryz.prog.plainKeys) = true := by kernel_rfl
theorem row11k24b : (Rows.booksEventsRow.lifted == Tryz.prog.liftsFinal) = true := by kernel_rfl
theorem row11k24c : (Tryz.prog.make == some Rows.booksEventsRow.make) = true := by kernel_rfl
theorem row11a : joinedFacts Tryz.prog 11 Tryz.f11 Rows.booksEventsSpec Rows.booksEventsRow = true := by
  simp only [joinedFacts, Bool.and_eq_true]
  refine ⟨⟨⟨⟨⟨⟨⟨⟨⟨⟨⟨⟨⟨⟨⟨⟨⟨⟨⟨⟨⟨⟨⟨⟨⟨⟨⟨⟨⟨⟨⟨?_, ?_⟩, ?_⟩, ?_⟩, ?_⟩, ?_⟩, ?_⟩, ?_⟩, ?_⟩, ?_⟩, ?_⟩, ?_⟩, ?_⟩, ?_⟩, ?_⟩, ?_⟩, ?_⟩, ?_⟩, ?_⟩, ?_⟩, ?_⟩, ?_⟩, ?_⟩, ?_⟩, ?_⟩, ?_⟩, ?_⟩, ?_⟩, ?_⟩, ?_⟩, ?_⟩, ?_⟩
  · kernel_rfl
  · exact lawOut
  · exact law3
  · kernel_rfl
  · exact row11k5
  · kernel_rfl
  · exact law7
  · kernel_rfl
  · exact law9
  · exact row11k10
  · exact row11k11
  · exact row11k12
  · exact row11k13
  · kernel_rfl
  · kernel_rfl
  · kernel_rfl
  · kernel_rfl
  · kernel_rfl
  · kernel_rfl
  · kernel_rfl
  · kernel_rfl
  · kernel_rfl
  · exact row11k22
  · kernel_rfl
  · exact law23b
  · exact law24
  · exact row11k24b
  · exact row11k24c
  · kernel_rfl
  · kernel_rfl
  · kernel_rfl
  · kernel_rfl
theorem row11b : Tryz.f11.isInstance Tryz.prog Rows.booksEventsRow.origin Rows.booksEventsRow.targs := of_decide_eq_true (by kernel_rfl)
theorem row11c : Tryz.f11.isWrapper Tryz.prog Rows.booksEventsRow.wrapper Rows.booksEventsRow.mainSum := by unfold Func.isWrapper; rw [if_neg (of_decide_eq_false (by kernel_rfl))]; exact ⟨rfl, rfl⟩
theorem row11d : Tryz.pinned.checked.prog.funcNamed Rows.booksEventsRow.func = some 11 := by kernel_rfl
theorem row11 : Rows.BooksEventsSaid :=
  OpenClaim.holds_of_wide (p := Tryz.pinned) (s := Rows.booksEventsSpec) (c := Rows.booksEventsRow) 11 Tryz.f11 rfl rfl rfl rfl rfl rfl rfl ⟨rfl, rfl, rfl, rfl, rfl⟩ rfl rfl rfl rfl rfl row11d Tryz.func11 row11a row11b row11c
    (fun os started H enc _ => lift11 os started H enc)
theorem row11e : (Rows.booksEventsRow).wfByText (OpenSpec.ofChange Rows.booksEventsSpec) = true := by kernel_rfl
theorem row11f : Tryz.pinned.checked.prog.mainIs = some (Rows.booksEventsCard.stood.harness.1, Rows.booksEventsCard.stood.harness.2.toList) := by kernel_rfl
theorem row11i : (Tryz.f11.params.toList.all fun u => !Tryz.prog.wantsStandIn u) = true := by kernel_rfl
theorem row11h : false = (Rows.booksEventsRow).goesBy Tryz.pinned.checked.prog := by kernel_rfl
theorem row11g : true = Tryz.pinned.checked.prog.looks [] := by kernel_rfl
theorem row11j : ∀ f fn, Tryz.pinned.checked.prog.funcNamed Rows.booksEventsRow.func = some f → Tryz.pinned.checked.prog.funcs[f]? = some fn → true = Tryz.pinned.checked.prog.looks [] ∧ ∀ (j : Nat) t, fn.params[j]? = some t → Tryz.pinned.checked.prog.wantsStandIn t = false := fun f fn hf hfn => by
  obtain rfl : f = 11 := Option.some.inj (row11d.symm.trans hf) |>.symm
  obtain rfl : fn = Tryz.f11 := (Option.some.inj (Tryz.func11.symm.trans hfn)).symm
  exact ⟨row11g, fun j t ht => by
    have hm : t ∈ Tryz.f11.params.toList := by simpa using Array.mem_of_getElem? ht
    exact (show Tryz.prog.wantsStandIn t = false by simpa using List.all_eq_true.1 row11i t hm)⟩
end Go.Proofs.YtcibbcfiemeoiaaGreatDoor
