/- The closing of a law, common part. -/
import Derived.Test.YtkhdpgadionfnaaGreatFB
import Derived.Test.YtkhdpgadionfnaaGreatRows
import Derived.Stop.Joined
import Derived.Lay
namespace Go.Proofs.YtkhdpgadionfnaaGreat
open Go Go.Sx Go.RowKit Go.ChangeShapes
theorem lawOwn : ownKnob Tryz.prog.godebug = none := by kernel_rfl
theorem lawOut : laidOutB Tryz.prog = true := by kernel_rfl
theorem law3 : mapsRowed Tryz.prog = true := by kernel_rfl
theorem law7 : (Tryz.prog.stops == []) = true := by kernel_rfl
theorem law9 : (Tryz.prog.stopKnobs == []) = true := by kernel_rfl
theorem law23b : Tryz.prog.stopsHeard = true := by kernel_rfl
theorem law24 : Tryz.prog.mayEnter = true := by kernel_rfl
end Go.Proofs.YtkhdpgadionfnaaGreat
