/- The law walked: part of the proof. -/
import Derived.Test.YtcledkhhecdppaaGreatDoorFC
set_option linter.unusedSimpArgs false
set_option linter.unusedVariables false
set_option maxRecDepth 20000
namespace Go.Proofs.YtcledkhhecdppaaGreatDoor
open Go.Sx
set_option maxHeartbeats 20000000
def cLocates : Con := { args := [aCR, aP, aP], ress := [Bo], owns := [], pre := fun _ => [], spec := fun _ => (true, ()) }
def vc4_0 (c : Cab) (a b : Int × Int) := (c.1, c.snd.1, c.snd.snd.fst, c.snd.snd.snd)
def vc4_1 (c : Cab) (a b : Int × Int) := (locF (vc4_0 c a b) (a.fst, a.snd) (b.fst, b.snd))
theorem vc4 : ∀ (c : Cab) (a b : Int × Int), wpF Tryz.prog G128 (na ()) Tryz.f4 cLocates (c, a, b, ()) = (((bif false then true else !shortS (vc4_0 c a b)) = true → true = true) ∧ ((bif false then true else !shortS (vc4_0 c a b)) = false → (List.length c.1 ≤ (1000000 : Nat) ∧ List.length c.snd.1 ≤ (1000000 : Nat) ∧ List.length c.1 ≤ (1000000 : Nat) ∧ List.length c.snd.1 ≤ (1000000 : Nat)) ∧ (List.length c.1 ≤ (1000000 : Nat) ∧ List.length c.snd.1 ≤ (1000000 : Nat) ∧ (3 : Nat) ≤ (1000000 : Nat)) ∧ ((firstS [cabS (vc4_0 c a b), tickE (a.fst, a.snd), tickE (b.fst, b.snd)] == (0 : Int)) = true → firstS [cabS (vc4_0 c a b), tickE (a.fst, a.snd), tickE (b.fst, b.snd)] = (0 : Int) ∧ (bif (vc4_1 c a b).fst == (locG (vc4_0 c a b) (a.fst, a.snd) (b.fst, b.snd)).fst && ((vc4_1 c a b).snd.fst == (locG (vc4_0 c a b) (a.fst, a.snd) (b.fst, b.snd)).snd.fst && true) && ((vc4_1 c a b).snd.snd.fst == (locG (vc4_0 c a b) (a.fst, a.snd) (b.fst, b.snd)).snd.snd.fst && ((vc4_1 c a b).snd.snd.snd == (locG (vc4_0 c a b) (a.fst, a.snd) (b.fst, b.snd)).snd.snd.snd && true) && true) then locE (vc4_0 c a b) (a.fst, a.snd) (b.fst, b.snd) == locGE (vc4_0 c a b) (a.fst, a.snd) (b.fst, b.snd) else false) = true) ∧ ((firstS [cabS (vc4_0 c a b), tickE (a.fst, a.snd), tickE (b.fst, b.snd)] == (0 : Int)) = false → (bif (vc4_1 c a b).fst == (0 : Int) && ((vc4_1 c a b).snd.fst == (0 : Int) && true) && ((vc4_1 c a b).snd.snd.fst == (0 : Int) && ((vc4_1 c a b).snd.snd.snd == (0 : Int) && true) && true) then locE (vc4_0 c a b) (a.fst, a.snd) (b.fst, b.snd) == firstS [cabS (vc4_0 c a b), tickE (a.fst, a.snd), tickE (b.fst, b.snd)] else false) = true))) := by
 intros
 kernel_rfl
theorem wp4 (c : Cab) (a b : Int × Int) : wpF Tryz.prog G128 (na ()) Tryz.f4 cLocates (c, a, b, ()) := by
 refine (vc4 c a b).mpr ?_
 delta vc4_0 vc4_1
 obtain ⟨s, j, e0, e1⟩ := c
 obtain ⟨a0, a1⟩ := a
 obtain ⟨b0, b1⟩ := b
 dsimp only
 refine ⟨fun _ => rfl, fun h => ?_⟩
 have hs := short_len h
 have h1 : s.length ≤ 1000000 := Nat.le_trans hs.1 (by decide)
 have h2 : j.length ≤ 1000000 := Nat.le_trans hs.2 (by decide)
 refine ⟨⟨h1, h2, h1, h2⟩, ⟨h1, h2, by decide⟩, ?_⟩
 generalize ((s, j, e0, e1) : Cab) = c
 generalize ((a0, a1) : Int × Int) = a
 generalize ((b0, b1) : Int × Int) = b
 refine ⟨fun q => ?_, fun q => ?_⟩
 ·have q : firstS [cabS c, tickE a, tickE b] = 0 := by simpa using q
  have eF : locF c a b = locG c a b := by unfold locF; rw [if_pos q]
  have eE : locE c a b = locGE c a b := by unfold locE; rw [if_pos q]
  refine ⟨q, ?_⟩
  simp [eF, eE]
 ·have q : ¬ firstS [cabS c, tickE a, tickE b] = 0 := by simpa using q
  have eF : locF c a b = (0, 0, 0, 0) := by unfold locF; rw [if_neg q]
  have eE : locE c a b = firstS [cabS c, tickE a, tickE b] := by unfold locE; rw [if_neg q]
  simp [eF, eE]
theorem ok4 : Ok Tryz.prog 4 cLocates := ok_of_wp mixed g128 (by kernel_rfl) (by kernel_rfl) na fun xx => wp4 xx.1 xx.2.1 xx.2.2.1
abbrev G129 : Gam := (4, cLocates) :: G128
theorem g129 : GamOk Tryz.prog G129 := .cons ok4 g128
end Go.Proofs.YtcledkhhecdppaaGreatDoor
