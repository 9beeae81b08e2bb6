/- The law walked: part of the proof. -/
import Derived.Test.YtacaadhlobbemaaGreatDoorFC
set_option maxRecDepth 20000
namespace Go.Proofs.YtacaadhlobbemaaGreatDoor
open Go.Sx
set_option maxHeartbeats 20000000
theorem runGo_len {x : TrT} : ∀ {f : Nat} {i : Int} {s : Int × Int} {out : List (Int × Int)}, (runGo x f i s out).1.length ≤ out.length + f
  | 0, _, _, _ => by simp [runGo]
  | f + 1, i, s, out => by
    unfold runGo
    split
    · simp
    · split
      · simp
      · have := runGo_len (x := x) (f := f) (i := i + 1) (s := nextT x s) (out := out ++ [s])
        simp only [List.length_append, List.length_cons, List.length_nil] at this
        omega
theorem runF_len {x : TrT} {s : Int × Int} : (runF x s).1.length ≤ 1000000 := by
  unfold runF
  split
  · simp
  · have := runGo_len (x := x) (f := 257) (i := 0) (s := s) (out := [])
    simp only [List.length_nil] at this
    omega
def cFlowTrips : Con := { args := [.val true s4, .val true sPt], ress := [Bo], owns := [], pre := fun _ => [], spec := fun _ => (true, ()) }
theorem vc8 : ∀ (x : TrT) (s : Int × Int), wpF Tryz.prog G133 (na ()) Tryz.f8 cFlowTrips (x, s, ()) = ((((tripS (x.fst, x.snd.fst, x.snd.snd.fst, x.snd.snd.snd) == tripS (x.fst, x.snd.fst, x.snd.snd.fst, x.snd.snd.snd)) = true → List.length (runF (x.fst, x.snd.fst, x.snd.snd.fst, x.snd.snd.snd) (s.fst, s.snd)).1 ≤ (1000000 : Nat)) ∧ ((tripS (x.fst, x.snd.fst, x.snd.snd.fst, x.snd.snd.snd) == tripS (x.fst, x.snd.fst, x.snd.snd.fst, x.snd.snd.snd)) = true → List.length (runF (x.fst, x.snd.fst, x.snd.snd.fst, x.snd.snd.snd) (s.fst, s.snd)).1 ≤ (1000000 : Nat))) ∧ (bif bif bif bif tripS (x.fst, x.snd.fst, x.snd.snd.fst, x.snd.snd.snd) == tripS (x.fst, x.snd.fst, x.snd.snd.fst, x.snd.snd.snd) then decide ((runF (x.fst, x.snd.fst, x.snd.snd.fst, x.snd.snd.snd) (s.fst, s.snd)).1 = (runF (x.fst, x.snd.fst, x.snd.snd.fst, x.snd.snd.snd) (s.fst, s.snd)).1) else false then (runF (x.fst, x.snd.fst, x.snd.snd.fst, x.snd.snd.snd) (s.fst, s.snd)).snd.fst == (runF (x.fst, x.snd.fst, x.snd.snd.fst, x.snd.snd.snd) (s.fst, s.snd)).snd.fst else false then (runF (x.fst, x.snd.fst, x.snd.snd.fst, x.snd.snd.snd) (s.fst, s.snd)).snd.snd == (runF (x.fst, x.snd.fst, x.snd.snd.fst, x.snd.snd.snd) (s.fst, s.snd)).snd.snd else false then true else false) = true) := by
  intros
  kernel_rfl
theorem wp8 (x : TrT) (s : Int × Int) : wpF Tryz.prog G133 (na ()) Tryz.f8 cFlowTrips (x, s, ()) := by
  refine (vc8 x s).mpr ?_
  exact ⟨⟨fun _ => runF_len, fun _ => runF_len⟩, by simp⟩
theorem ok8 : Ok Tryz.prog 8 cFlowTrips := ok_of_wp mixed g133 (by kernel_rfl) (by kernel_rfl) na fun xx => wp8 xx.1 xx.2.1
abbrev G134 : Gam := (8, cFlowTrips) :: G133
theorem g134 : GamOk Tryz.prog G134 := .cons ok8 g133
end Go.Proofs.YtacaadhlobbemaaGreatDoor
