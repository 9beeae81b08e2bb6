/- Logs that are cut off, changed or lack a record are recovered as the statement says: for every journal and numbers that the statement takes; others are passed over. Conditions: the listed tables of the library start as the program's text lays them. -/
import Derived.Test.YtcibbcfiemeoiaaGreatDoorClose
import Derived.Test.YtcibbcfiemeoiaaGreatDoorLaw10A
namespace Go.Proofs.YtcibbcfiemeoiaaGreatDoor
open Go Go.Sx Go.RowKit Go.ChangeShapes
set_option maxRecDepth 100000
theorem wf16 {n : Int} (h : (Lit.int .u16 n).wf = true) : 0 ≤ n ∧ n < 65536 := by
  simp only [Lit.wf, IntKind.min, IntKind.max, IntKind.signed, IntKind.bits, Bool.and_eq_true, decide_eq_true_eq, Bool.false_eq_true, if_false] at h
  omega
theorem lift10 (os : Os) (started : os.Started) (H : Type) (enc : TypeId × Value → H) :
    ReturnsInHanded {} Tryz.checked os 10 .any (fun w args => (Rows.booksTornSpec.pre enc Tryz.prog Tryz.f10 [] false w args ∧ laidMetH Tryz.prog laid7 w) ∧ sizedMet enc Tryz.prog Tryz.f10 (OpenSpec.ofChange Rows.booksTornSpec) false w args)
      (Rows.booksTornSpec.post enc Tryz.prog Tryz.f10 false true false false) := by
  refine handed_shaped (C := Tryz.checked) (X := fun w _ => laidMetH Tryz.prog laid7 w) (fun _ _ _ hh h => h.of_heap hh) lawOwn started (by kernel_rfl) Tryz.func10
    (ChangeSpec.witness_shaped (enc := enc) (C := Tryz.checked) (os := os) (X := fun w _ => laidMetH Tryz.prog laid7 w) false (World.laidAll Tryz.prog os laid7) #[.slice none 0 0, .agg #[.int .u16 0, .int .u16 0, .int .u16 0]] 8 (World.laidAll_os _ _ _)
      (World.shaped_of_ZipB (by kernel_rfl) (by kernel_rfl)) (by kernel_rfl) (by kernel_rfl) (by kernel_rfl)
      (by rw [MakeChecks.laidMetH_plain _ _ _ (by kernel_rfl)]; exact laidMet_laidAll _ (by kernel_rfl) (by kernel_rfl))) ?_
  intro W base args ds gs before hsh hval hW hL
  refine law_calls (tb := 4) ok10 (fun x h => ?_) lawOut (by kernel_rfl) (by kernel_rfl) (by kernel_rfl) Tryz.underlying4 rfl (fun ds hl => ?_) (lawTab hL hsh) hval hW
  · exact ⟨wf16 h.2.1.1, wf16 h.2.1.2.1, wf16 h.2.1.2.2⟩
  · match ds, hl with
    | [_, _], _ => rfl
theorem row10k10 : (Rows.booksTornRow.inPlace == Tryz.prog.inPlace 10) = true := by kernel_rfl
theorem row10k11 : (Rows.booksTornRow.unfollowed == Tryz.prog.unfollowed 10) = true := by kernel_rfl
theorem row10k12 : (Rows.booksTornRow.recurses == Tryz.prog.recurses 10) = true := by kernel_rfl
theorem row10k13 : (Rows.booksTornRow.named == Tryz.prog.varsNamed 10) = true := by kernel_rfl
theorem row10k5 : namedTie Tryz.prog Rows.booksTornRow.named Rows.booksTornSpec.vars = true := by kernel_rfl
theorem row10k22 : (Rows.booksTornRow.plainKeys == Tryz.prog.plainKeys) = true := by kernel_rfl
theorem row10k24b : (Rows.booksTornRow.lifted == Tryz.prog.liftsFinal) = true := by kernel_rfl
theorem row10k24c : (Tryz.prog.make == some Rows.booksTornRow.make) = true := by kernel_rfl
theorem row10a : joinedFacts Tryz.prog 10 Tryz.f10 Rows.booksTornSpec Rows.booksTornRow = true := by
  simp only [joinedFacts, Bool.and_eq_true]
  refine ⟨⟨⟨⟨⟨⟨⟨⟨⟨⟨⟨⟨⟨⟨⟨⟨⟨⟨⟨⟨⟨⟨⟨⟨⟨⟨⟨⟨⟨⟨⟨?_, ?_⟩, ?_⟩, ?_⟩, ?_⟩, ?_⟩, ?_⟩, ?_⟩, ?_⟩, ?_⟩, ?_⟩, ?_⟩, ?_⟩, ?_⟩, ?_⟩, ?_⟩, ?_⟩, ?_⟩, ?_⟩, ?_⟩, ?_⟩, ?_⟩, ?_⟩, ?_⟩, ?_⟩, ?_⟩, ?_⟩, ?_⟩, ?_⟩, ?_⟩, ?_⟩, ?_⟩
  · kernel_rfl
  · exact lawOut
  · exact law3
  · kernel_rfl
  · exact row10k5
  · kernel_rfl
  · exact law7
  · kernel_rfl
  · exact law9
  · exact row10k10
  · exact row10k11
  · exact row10k12
  · exact row10k13
  · kernel_rfl
  · kernel_rfl
  · kernel_rfl
  · kernel_rfl
  · kernel_rfl
  · kernel_rfl
  · kernel_rfl
  · kernel_rfl
  · kernel_rfl
  · exact row10k22
  · kernel_rfl
  · exact law23b
  · exact law24
  · exact row10k24b
  · exact row10k24c
  · kernel_rfl
  · kernel_rfl
  · kernel_rfl
  · kernel_rfl
theorem row10b : Tryz.f10.isInstance Tryz.prog Rows.booksTornRow.origin Rows.booksTornRow.targs := of_decide_eq_true (by kernel_rfl)
theorem row10c : Tryz.f10.isWrapper Tryz.prog Rows.booksTornRow.wrapper Rows.booksTornRow.mainSum := by unfold Func.isWrapper; rw [if_neg (of_decide_eq_false (by kernel_rfl))]; exact ⟨rfl, rfl⟩
theorem row10d : Tryz.pinned.checked.prog.funcNamed Rows.booksTornRow.func = some 10 := by kernel_rfl
theorem row10 : Rows.BooksTornSaid :=
  OpenClaim.holds_of_wide (p := Tryz.pinned) (s := Rows.booksTornSpec) (c := Rows.booksTornRow) 10 Tryz.f10 rfl rfl rfl rfl rfl rfl rfl ⟨rfl, rfl, rfl, rfl, rfl⟩ rfl rfl rfl rfl rfl row10d Tryz.func10 row10a row10b row10c
    (fun os started H enc _ => lift10 os started H enc)
theorem row10e : (Rows.booksTornRow).wfByText (OpenSpec.ofChange Rows.booksTornSpec) = true := by kernel_rfl
theorem row10f : Tryz.pinned.checked.prog.mainIs = some (Rows.booksTornCard.stood.harness.1, Rows.booksTornCard.stood.harness.2.toList) := by kernel_rfl
theorem row10i : (Tryz.f10.params.toList.all fun u => !Tryz.prog.wantsStandIn u) = true := by kernel_rfl
theorem row10h : false = (Rows.booksTornRow).goesBy Tryz.pinned.checked.prog := by kernel_rfl
theorem row10g : true = Tryz.pinned.checked.prog.looks [] := by kernel_rfl
theorem row10j : ∀ f fn, Tryz.pinned.checked.prog.funcNamed Rows.booksTornRow.func = some f → Tryz.pinned.checked.prog.funcs[f]? = some fn → true = Tryz.pinned.checked.prog.looks [] ∧ ∀ (j : Nat) t, fn.params[j]? = some t → Tryz.pinned.checked.prog.wantsStandIn t = false := fun f fn hf hfn => by
  obtain rfl : f = 10 := Option.some.inj (row10d.symm.trans hf) |>.symm
  obtain rfl : fn = Tryz.f10 := (Option.some.inj (Tryz.func10.symm.trans hfn)).symm
  exact ⟨row10g, fun j t ht => by
    have hm : t ∈ Tryz.f10.params.toList := by simpa using Array.mem_of_getElem? ht
    exact (show Tryz.prog.wantsStandIn t = false by simpa using List.all_eq_true.1 row10i t hm)⟩
end Go.Proofs.YtcibbcfiemeoiaaGreatDoor
