/- A wave that is run forward, what both ends record of it, packed and unpacked, and the place where it is located from that, are as the statement says: for every cable, every fault and every pair of clocks errors that it takes. Conditions: none beyond the statement's own. -/
import Derived.Test.YtkhdpgadionfnaaGreatClose
import Derived.Test.YtkhdpgadionfnaaGreatLaw3A
namespace Go.Proofs.YtkhdpgadionfnaaGreat
open Go Go.Sx Go.RowKit Go.ChangeShapes
set_option maxRecDepth 100000
theorem wf8 {n : Int} (h : (Lit.int .i8 n).wf = true) : -128 ≤ n ∧ n ≤ 127 := by
  simp only [Lit.wf, IntKind.min, IntKind.max, IntKind.signed, IntKind.bits, Bool.and_eq_true, decide_eq_true_eq, if_true] at h
  omega
theorem lift3 (os : Os) (started : os.Started) (H : Type) (enc : TypeId × Value → H) :
    ReturnsInHanded {} Tryz.checked os 3 .any (Rows.topClampLocatedSpec.pre6 enc Tryz.prog Tryz.f3 [] false)
      (Rows.topClampLocatedSpec.post enc Tryz.prog Tryz.f3 false true false false) := by
  refine returnsInHanded_of_change (C := Tryz.checked) lawOwn started (by kernel_rfl) Tryz.func3 ?_ ?_
  · obtain ⟨w, t, i, h1, h2, h3, h4, ⟨⟨h5, _⟩, h6⟩, h7⟩ := ChangeSpec.witness_shaped (s := Rows.topClampLocatedSpec) (fn := Tryz.f3) (f := 3) (conds := []) (enc := enc) (C := Tryz.checked) (os := os) (X := fun _ _ => True) false (World.doorLaid Tryz.prog 400 os) #[.agg #[.slice none 0 0, .slice none 0 0, .int .i64 0, .int .i64 0], .agg #[.int .i64 0, .int .i64 0, .int .i64 0, .int .i64 0], .agg #[.int .i8 0, .int .i8 0]] 8 rfl (World.shaped_of_RefB (by kernel_rfl) (by kernel_rfl)) (by kernel_rfl) (by kernel_rfl) (by kernel_rfl) trivial
    exact ⟨w, t, i, h1, h2, h3, h4, ⟨h5, h6⟩, h7⟩
  intro W base args ds gs before hval hW _ _
  refine law_calls (tb := 4) ok3 (fun x h => ?_) lawOut (by kernel_rfl) (by kernel_rfl) (by kernel_rfl) Tryz.underlying4 rfl (fun ds hl => ?_) trivial hval hW
  · exact ⟨h.1.1.1, h.1.2.1.1, wf8 h.2.2.1.1, wf8 h.2.2.1.2⟩
  · match ds, hl with
    | [_, _, _], _ => rfl
theorem row3k10 : (Rows.topClampLocatedRow.inPlace == Tryz.prog.inPlace 3) = true := by kernel_rfl
theorem row3k11 : (Rows.topClampLocatedRow.unfollowed == Tryz.prog.unfollowed 3) = true := by kernel_rfl
theorem row3k12 : (Rows.topClampLocatedRow.recurses == Tryz.prog.recurses 3) = true := by kernel_rfl
theorem row3k13 : (Rows.topClampLocatedRow.named == Tryz.prog.varsNamed 3) = true := by kernel_rfl
theorem row3k5 : namedTie Tryz.prog Rows.topClampLocatedRow.named Rows.topClampLocatedSpec.vars = true := by kernel_rfl
theorem row3k22 : (Rows.topClampLocatedRow.plainKeys == Tryz.prog.plainKeys) = true := by kernel_rfl
theorem row3k24b : (Rows.topClampLocatedRow.lifted == Tryz.prog.liftsFinal) = true := by kernel_rfl
theorem row3k24c : (Tryz.prog.make == some Rows.topClampLocatedRow.make) = true := by kernel_rfl
theorem row3a : joinedFacts Tryz.prog 3 Tryz.f3 Rows.topClampLocatedSpec Rows.topClampLocatedRow = true := by
  simp only [joinedFacts, Bool.and_eq_true]
  refine ⟨⟨⟨⟨⟨⟨⟨⟨⟨⟨⟨⟨⟨⟨⟨⟨⟨⟨⟨⟨⟨⟨⟨⟨⟨⟨⟨⟨⟨⟨⟨?_, ?_⟩, ?_⟩, ?_⟩, ?_⟩, ?_⟩, ?_⟩, ?_⟩, ?_⟩, ?_⟩, ?_⟩, ?_⟩, ?_⟩, ?_⟩, ?_⟩, ?_⟩, ?_⟩, ?_⟩, ?_⟩, ?_⟩, ?_⟩, ?_⟩, ?_⟩, ?_⟩, ?_⟩, ?_⟩, ?_⟩, ?_⟩, ?_⟩, ?_⟩, ?_⟩, ?_⟩
  · kernel_rfl
  · exact lawOut
  · exact law3
  · kernel_rfl
  · exact row3k5
  · kernel_rfl
  · exact law7
  · kernel_rfl
  · exact law9
  · exact row3k10
  · exact row3k11
  · exact row3k12
  · exact row3k13
  · kernel_rfl
  · kernel_rfl
  · kernel_rfl
  · kernel_rfl
  · kernel_rfl
  · kernel_rfl
  · kernel_rfl
  · kernel_rfl
  · kernel_rfl
  · exact row3k22
  · kernel_rfl
  · exact law23b
  · exact law24
  · exact row3k24b
  · exact row3k24c
  · kernel_rfl
  · kernel_rfl
  · kernel_rfl
  · kernel_rfl
theorem row3b : Tryz.f3.isInstance Tryz.prog Rows.topClampLocatedRow.origin Rows.topClampLocatedRow.targs := of_decide_eq_true (by kernel_rfl)
theorem row3c : Tryz.f3.isWrapper Tryz.prog Rows.topClampLocatedRow.wrapper Rows.topClampLocatedRow.mainSum := by unfold Func.isWrapper; rw [if_neg (of_decide_eq_false (by kernel_rfl))]; exact ⟨rfl, rfl⟩
theorem row3d : Tryz.pinned.checked.prog.funcNamed Rows.topClampLocatedRow.func = some 3 := by kernel_rfl
theorem row3 : Rows.TopClampLocatedSaid :=
  OpenClaim.holds_of_wide (p := Tryz.pinned) (s := Rows.topClampLocatedSpec) (c := Rows.topClampLocatedRow) 3 Tryz.f3 rfl rfl rfl rfl rfl rfl rfl ⟨rfl, rfl, rfl, rfl, rfl⟩ rfl rfl rfl rfl rfl row3d Tryz.func3 row3a row3b row3c
    (fun os started H enc _ => lift3 os started H enc)
end Go.Proofs.YtkhdpgadionfnaaGreat
