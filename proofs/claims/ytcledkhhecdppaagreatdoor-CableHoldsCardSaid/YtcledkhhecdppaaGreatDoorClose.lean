/- The closing of a law, common part: the listed tables. -/
import Derived.Test.YtcledkhhecdppaaGreatDoorFC
import Derived.Test.YtcledkhhecdppaaGreatDoorRows
import Derived.Test.YtcledkhhecdppaaGreatDoorCards
import Derived.Test.YtcledkhhecdppaaGreatDoorTie
import Derived.SevenTiedAt
import Derived.Stop.Joined
namespace Go.Proofs.YtcledkhhecdppaaGreatDoor
open Go Go.Sx Go.RowKit Go.ChangeShapes
theorem lawOwn : ownKnob Tryz.prog.godebug = none := by kernel_rfl
theorem lawOut : laidOutB Tryz.prog = true := by kernel_rfl
abbrev laid3 : List (String × DataW Unit) := [("math/bits.deBruijn32tab", Rows.laid_math_bits_deBruijn32tab), ("math/bits.deBruijn64tab", Rows.laid_math_bits_deBruijn64tab), ("internal/strconv.uint64pow10", Rows.laid_internal_strconv_uint64pow10)]
theorem lawDoor (os : Os) (args : Array Value) : laidMetH Tryz.prog laid3 ((World.doorLaid Tryz.prog 400 os).forCall (fun _ _ => 0) ⟨#[], args, []⟩).memory :=
  laidMetH_of_parts3 (fuel := 8) (laidMet_of_run' 8 (by kernel_rfl) (by kernel_rfl)) (by kernel_rfl) (by kernel_rfl)
theorem pow10_data : Rows.laid_internal_strconv_uint64pow10 = (Lib.tabData .u64 Lib.pow10Tab : DataW Unit) := by kernel_rfl
theorem lawTab {W : World} (h : laidMetH Tryz.prog laid3 W) : Tab Tryz.prog W := by
  refine ⟨?_, fun e => Bool.noConfusion e⟩
  rw [MakeChecks.laidMetH_plain _ _ _ (by kernel_rfl)] at h
  obtain ⟨ps, ⟨g0, t0, cs0, f0, p0, q0, hg0, ht0, hv0, hd0, ⟨g1, t1, cs1, f1, p1, q1, hg1, ht1, hv1, hd1, ⟨g2, t2, cs2, f2, p2, q2, hg2, ht2, hv2, hd2, _, _⟩, _⟩, _⟩, _⟩ := h
  rw [pow10_data] at hd2
  have a1 : Tryz.prog.globalNamed "internal/strconv.uint64pow10" = some (0 : Nat) := by kernel_rfl
  obtain rfl := Option.some.inj (a1.symm.trans hg2)
  have a2 : (Tryz.prog.globals[(0 : Nat)]?).map (·.type) = some (324 : Nat) := by kernel_rfl
  obtain rfl := Option.some.inj (a2.symm.trans ht2)
  show W.var? Tryz.prog "internal/strconv.uint64pow10" = _
  have hc := Lib.cells_of_tab (n := 20) (e := (278 : Nat)) (k := .u64) (zs := Lib.pow10Tab) (by kernel_rfl) (by kernel_rfl) (by kernel_rfl) (by kernel_rfl) hd2
  simp only [hv2, ← hc]
theorem law3 : mapsRowed Tryz.prog = true := by kernel_rfl
theorem law7 : (Tryz.prog.stops == []) = true := by kernel_rfl
theorem law9 : (Tryz.prog.stopKnobs == []) = true := by kernel_rfl
theorem law23b : Tryz.prog.stopsHeard = true := by kernel_rfl
theorem law24 : Tryz.prog.mayEnter = true := by kernel_rfl
end Go.Proofs.YtcledkhhecdppaaGreatDoor
