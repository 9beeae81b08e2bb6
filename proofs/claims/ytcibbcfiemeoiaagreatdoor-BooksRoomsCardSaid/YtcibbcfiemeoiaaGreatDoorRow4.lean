/- Rooms, missing hours and availabilities answer as the reference does, for every list of events and name that the statement takes, and every hour; others are passed over. Conditions: the listed tables of the library start as the program's text lays them. -/
import Derived.Test.YtcibbcfiemeoiaaGreatDoorClose
import Derived.Test.YtcibbcfiemeoiaaGreatDoorLaw4A
namespace Go.Proofs.YtcibbcfiemeoiaaGreatDoor
open Go Go.Sx Go.RowKit Go.ChangeShapes
set_option maxRecDepth 100000
theorem lift4 (os : Os) (started : os.Started) (H : Type) (enc : TypeId × Value → H) :
    ReturnsInHanded {} Tryz.checked os 4 .any (fun w args => (Rows.booksRoomsSpec.pre enc Tryz.prog Tryz.f4 [] false w args ∧ laidMetH Tryz.prog laid7 w) ∧ sizedMet enc Tryz.prog Tryz.f4 (OpenSpec.ofChange Rows.booksRoomsSpec) false w args)
      (Rows.booksRoomsSpec.post enc Tryz.prog Tryz.f4 false true false false) := by
  refine handed_shaped (C := Tryz.checked) (X := fun w _ => laidMetH Tryz.prog laid7 w) (fun _ _ _ hh h => h.of_heap hh) lawOwn started (by kernel_rfl) Tryz.func4
    (ChangeSpec.witness_shaped (enc := enc) (C := Tryz.checked) (os := os) (X := fun w _ => laidMetH Tryz.prog laid7 w) false (World.laidAll Tryz.prog os laid7) #[.slice none 0 0, .string ⟨#[]⟩, .int .i64 0] 8 (World.laidAll_os _ _ _)
      (World.shaped_of_ZipB (by kernel_rfl) (by kernel_rfl)) (by kernel_rfl) (by kernel_rfl) (by kernel_rfl)
      (by rw [MakeChecks.laidMetH_plain _ _ _ (by kernel_rfl)]; exact laidMet_laidAll _ (by kernel_rfl) (by kernel_rfl))) ?_
  intro W base args ds gs before hsh hval hW hL
  refine law_calls (tb := 4) ok4 (fun x h => ?_) lawOut (by kernel_rfl) (by kernel_rfl) (by kernel_rfl) Tryz.underlying4 rfl (fun ds hl => ?_) (lawTab hL hsh) hval hW
  · exact trivial
  · match ds, hl with
    | [_, _, _], _ => rfl
theorem row4k10 : (Rows.booksRoomsRow.inPlace == Tryz.prog.inPlace 4) = true := by kernel_rfl
theorem row4k11 : (Rows.booksRoomsRow.unfollowed == Tryz.prog.unfollowed 4) = true := by kernel_rfl
theorem row4k12 : (Rows.booksRoomsRow.recurses == Tryz.prog.recurses 4) = true := by kernel_rfl
theorem row4k13 : (Rows.booksRoomsRow.named == Tryz.prog.varsNamed 4) = true := by kernel_rfl
theorem row4k5 : namedTie Tryz.prog Rows.booksRoomsRow.named Rows.booksRoomsSpec.vars = true := by kernel_rfl
theorem row4k22 : (Rows.booksRoomsRow.plainKeys == Tryz.prog.plainKeys) = true := by kernel_rfl
theorem row4k24b : (Rows.booksRoomsRow.lifted == Tryz.prog.liftsFinal) = true := by kernel_rfl
theorem row4k24c : (Tryz.prog.make == some Rows.booksRoomsRow.make) = true := by kernel_rfl
theorem row4a : joinedFacts Tryz.prog 4 Tryz.f4 Rows.booksRoomsSpec Rows.booksRoomsRow = true := by
  simp only [joinedFacts, Bool.and_eq_true]
  refine ⟨⟨⟨⟨⟨⟨⟨⟨⟨⟨⟨⟨⟨⟨⟨⟨⟨⟨⟨⟨⟨⟨⟨⟨⟨⟨⟨⟨⟨⟨⟨?_, ?_⟩, ?_⟩, ?_⟩, ?_⟩, ?_⟩, ?_⟩, ?_⟩, ?_⟩, ?_⟩, ?_⟩, ?_⟩, ?_⟩, ?_⟩, ?_⟩, ?_⟩, ?_⟩, ?_⟩, ?_⟩, ?_⟩, ?_⟩, ?_⟩, ?_⟩, ?_⟩, ?_⟩, ?_⟩, ?_⟩, ?_⟩, ?_⟩, ?_⟩, ?_⟩, ?_⟩
  · kernel_rfl
  · exact lawOut
  · exact law3
  · kernel_rfl
  · exact row4k5
  · kernel_rfl
  · exact law7
  · kernel_rfl
  · exact law9
  · exact row4k10
  · exact row4k11
  · exact row4k12
  · exact row4k13
  · kernel_rfl
  · kernel_rfl
  · kernel_rfl
  · kernel_rfl
  · kernel_rfl
  · kernel_rfl
  · kernel_rfl
  · kernel_rfl
  · kernel_rfl
  · exact row4k22
  · kernel_rfl
  · exact law23b
  · exact law24
  · exact row4k24b
  · exact row4k24c
  · kernel_rfl
  · kernel_rfl
  · kernel_rfl
  · kernel_rfl
theorem row4b : Tryz.f4.isInstance Tryz.prog Rows.booksRoomsRow.origin Rows.booksRoomsRow.targs := of_decide_eq_true (by kernel_rfl)
theorem row4c : Tryz.f4.isWrapper Tryz.prog Rows.booksRoomsRow.wrapper Rows.booksRoomsRow.mainSum := by unfold Func.isWrapper; rw [if_neg (of_decide_eq_false (by kernel_rfl))]; exact ⟨rfl, rfl⟩
theorem row4d : Tryz.pinned.checked.prog.funcNamed Rows.booksRoomsRow.func = some 4 := by kernel_rfl
theorem row4 : Rows.BooksRoomsSaid :=
  OpenClaim.holds_of_wide (p := Tryz.pinned) (s := Rows.booksRoomsSpec) (c := Rows.booksRoomsRow) 4 Tryz.f4 rfl rfl rfl rfl rfl rfl rfl ⟨rfl, rfl, rfl, rfl, rfl⟩ rfl rfl rfl rfl rfl row4d Tryz.func4 row4a row4b row4c
    (fun os started H enc _ => lift4 os started H enc)
theorem row4e : (Rows.booksRoomsRow).wfByText (OpenSpec.ofChange Rows.booksRoomsSpec) = true := by kernel_rfl
theorem row4f : Tryz.pinned.checked.prog.mainIs = some (Rows.booksRoomsCard.stood.harness.1, Rows.booksRoomsCard.stood.harness.2.toList) := by kernel_rfl
theorem row4i : (Tryz.f4.params.toList.all fun u => !Tryz.prog.wantsStandIn u) = true := by kernel_rfl
theorem row4h : false = (Rows.booksRoomsRow).goesBy Tryz.pinned.checked.prog := by kernel_rfl
theorem row4g : true = Tryz.pinned.checked.prog.looks [] := by kernel_rfl
theorem row4j : ∀ f fn, Tryz.pinned.checked.prog.funcNamed Rows.booksRoomsRow.func = some f → Tryz.pinned.checked.prog.funcs[f]? = some fn → true = Tryz.pinned.checked.prog.looks [] ∧ ∀ (j : Nat) t, fn.params[j]? = some t → Tryz.pinned.checked.prog.wantsStandIn t = false := fun f fn hf hfn => by
  obtain rfl : f = 4 := Option.some.inj (row4d.symm.trans hf) |>.symm
  obtain rfl : fn = Tryz.f4 := (Option.some.inj (Tryz.func4.symm.trans hfn)).symm
  exact ⟨row4g, fun j t ht => by
    have hm : t ∈ Tryz.f4.params.toList := by simpa using Array.mem_of_getElem? ht
    exact (show Tryz.prog.wantsStandIn t = false by simpa using List.all_eq_true.1 row4i t hm)⟩
end Go.Proofs.YtcibbcfiemeoiaaGreatDoor
