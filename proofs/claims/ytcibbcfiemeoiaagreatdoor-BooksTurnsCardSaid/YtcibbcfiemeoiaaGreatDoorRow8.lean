/- What is accepted and undone leaves the register that was before, and stories are journals of their own: for every journal and event that the statement takes; others are passed over. Conditions: the listed tables of the library start as the program's text lays them. -/
import Derived.Test.YtcibbcfiemeoiaaGreatDoorClose
import Derived.Test.YtcibbcfiemeoiaaGreatDoorLaw8A
namespace Go.Proofs.YtcibbcfiemeoiaaGreatDoor
open Go Go.Sx Go.RowKit Go.ChangeShapes
set_option maxRecDepth 100000
theorem lift8 (os : Os) (started : os.Started) (H : Type) (enc : TypeId × Value → H) :
    ReturnsInHanded {} Tryz.checked os 8 .any (fun w args => (Rows.booksTurnsSpec.pre enc Tryz.prog Tryz.f8 [] false w args ∧ laidMetH Tryz.prog laid7 w) ∧ sizedMet enc Tryz.prog Tryz.f8 (OpenSpec.ofChange Rows.booksTurnsSpec) false w args)
      (Rows.booksTurnsSpec.post enc Tryz.prog Tryz.f8 false true false false) := by
  refine handed_shaped (C := Tryz.checked) (X := fun w _ => laidMetH Tryz.prog laid7 w) (fun _ _ _ hh h => h.of_heap hh) lawOwn started (by kernel_rfl) Tryz.func8
    (ChangeSpec.witness_shaped (enc := enc) (C := Tryz.checked) (os := os) (X := fun w _ => laidMetH Tryz.prog laid7 w) false (World.laidAll Tryz.prog os laid7) #[.slice none 0 0, .agg #[.int .i64 0, .string ⟨#[]⟩, .slice none 0 0, .slice none 0 0, .string ⟨#[]⟩]] 8 (World.laidAll_os _ _ _)
      (World.shaped_of_ZipB (by kernel_rfl) (by kernel_rfl)) (by kernel_rfl) (by kernel_rfl) (by kernel_rfl)
      (by rw [MakeChecks.laidMetH_plain _ _ _ (by kernel_rfl)]; exact laidMet_laidAll _ (by kernel_rfl) (by kernel_rfl))) ?_
  intro W base args ds gs before hsh hval hW hL
  refine law_calls (tb := 4) ok8 (fun x h => ?_) lawOut (by kernel_rfl) (by kernel_rfl) (by kernel_rfl) Tryz.underlying4 rfl (fun ds hl => ?_) (lawTab hL hsh) hval hW
  · exact trivial
  · match ds, hl with
    | [_, _], _ => rfl
theorem row8k10 : (Rows.booksTurnsRow.inPlace == Tryz.prog.inPlace 8) = true := by kernel_rfl
theorem row8k11 : (Rows.booksTurnsRow.unfollowed == Tryz.prog.unfollowed 8) = true := by kernel_rfl
theorem row8k12 : (Rows.booksTurnsRow.recurses == Tryz.prog.recurses 8) = true := by kernel_rfl
theorem row8k13 : (Rows.booksTurnsRow.named == Tryz.prog.varsNamed 8) = true := by kernel_rfl
theorem row8k5 : namedTie Tryz.prog Rows.booksTurnsRow.named Rows.booksTurnsSpec.vars = true := by kernel_rfl
theorem row8k22 : (Rows.booksTurnsRow.plainKeys == Tryz.prog.plainKeys) = true := by kernel_rfl
theorem row8k24b : (Rows.booksTurnsRow.lifted == Tryz.prog.liftsFinal) = true := by kernel_rfl
theorem row8k24c : (Tryz.prog.make == some Rows.booksTurnsRow.make) = true := by kernel_rfl
theorem row8a : joinedFacts Tryz.prog 8 Tryz.f8 Rows.booksTurnsSpec Rows.booksTurnsRow = true := by
  simp only [joinedFacts, Bool.and_eq_true]
  refine ⟨⟨⟨⟨⟨⟨⟨⟨⟨⟨⟨⟨⟨⟨⟨⟨⟨⟨⟨⟨⟨⟨⟨⟨⟨⟨⟨⟨⟨⟨⟨?_, ?_⟩, ?_⟩, ?_⟩, ?_⟩, ?_⟩, ?_⟩, ?_⟩, ?_⟩, ?_⟩, ?_⟩, ?_⟩, ?_⟩, ?_⟩, ?_⟩, ?_⟩, ?_⟩, ?_⟩, ?_⟩, ?_⟩, ?_⟩, ?_⟩, ?_⟩, ?_⟩, ?_⟩, ?_⟩, ?_⟩, ?_⟩, ?_⟩, ?_⟩, ?_⟩, ?_⟩
  · kernel_rfl
  · exact lawOut
  · exact law3
  · kernel_rfl
  · exact row8k5
  · kernel_rfl
  · exact law7
  · kernel_rfl
  · exact law9
  · exact row8k10
  · exact row8k11
  · exact row8k12
  · exact row8k13
  · kernel_rfl
  · kernel_rfl
  · kernel_rfl
  · kernel_rfl
  · kernel_rfl
  · kernel_rfl
  · kernel_rfl
  · kernel_rfl
  · kernel_rfl
  · exact row8k22
  · kernel_rfl
  · exact law23b
  · exact law24
  · exact row8k24b
  · exact row8k24c
  · kernel_rfl
  · kernel_rfl
  · kernel_rfl
  · kernel_rfl
theorem row8b : Tryz.f8.isInstance Tryz.prog Rows.booksTurnsRow.origin Rows.booksTurnsRow.targs := of_decide_eq_true (by kernel_rfl)
theorem row8c : Tryz.f8.isWrapper Tryz.prog Rows.booksTurnsRow.wrapper Rows.booksTurnsRow.mainSum := by unfold Func.isWrapper; rw [if_neg (of_decide_eq_false (by kernel_rfl))]; exact ⟨rfl, rfl⟩
theorem row8d : Tryz.pinned.checked.prog.funcNamed Rows.booksTurnsRow.func = some 8 := by kernel_rfl
theorem row8 : Rows.BooksTurnsSaid :=
  OpenClaim.holds_of_wide (p := Tryz.pinned) (s := Rows.booksTurnsSpec) (c := Rows.booksTurnsRow) 8 Tryz.f8 rfl rfl rfl rfl rfl rfl rfl ⟨rfl, rfl, rfl, rfl, rfl⟩ rfl rfl rfl rfl rfl row8d Tryz.func8 row8a row8b row8c
    (fun os started H enc _ => lift8 os started H enc)
theorem row8e : (Rows.booksTurnsRow).wfByText (OpenSpec.ofChange Rows.booksTurnsSpec) = true := by kernel_rfl
theorem row8f : Tryz.pinned.checked.prog.mainIs = some (Rows.booksTurnsCard.stood.harness.1, Rows.booksTurnsCard.stood.harness.2.toList) := by kernel_rfl
theorem row8i : (Tryz.f8.params.toList.all fun u => !Tryz.prog.wantsStandIn u) = true := by kernel_rfl
theorem row8h : false = (Rows.booksTurnsRow).goesBy Tryz.pinned.checked.prog := by kernel_rfl
theorem row8g : true = Tryz.pinned.checked.prog.looks [] := by kernel_rfl
theorem row8j : ∀ f fn, Tryz.pinned.checked.prog.funcNamed Rows.booksTurnsRow.func = some f → Tryz.pinned.checked.prog.funcs[f]? = some fn → true = Tryz.pinned.checked.prog.looks [] ∧ ∀ (j : Nat) t, fn.params[j]? = some t → Tryz.pinned.checked.prog.wantsStandIn t = false := fun f fn hf hfn => by
  obtain rfl : f = 8 := Option.some.inj (row8d.symm.trans hf) |>.symm
  obtain rfl : fn = Tryz.f8 := (Option.some.inj (Tryz.func8.symm.trans hfn)).symm
  exact ⟨row8g, fun j t ht => by
    have hm : t ∈ Tryz.f8.params.toList := by simpa using Array.mem_of_getElem? ht
    exact (show Tryz.prog.wantsStandIn t = false by simpa using List.all_eq_true.1 row8i t hm)⟩
end Go.Proofs.YtcibbcfiemeoiaaGreatDoor
