/- The law walked: part of the proof. -/
import Derived.Test.YtcledkhhecdppaaGreatDoorFC
set_option linter.unusedSimpArgs false
set_option linter.unusedVariables false
set_option maxRecDepth 20000
namespace Go.Proofs.YtcledkhhecdppaaGreatDoor
open Go.Sx
set_option maxHeartbeats 20000000
theorem parseC_err (f : ByteArray → Int × Bool) : ∀ (l : List (List UInt8)) (k : Nat) (c : Cab), (parseC f l k c).2.2 = 0 ∨ (parseC f l k c).1 = zeroC
 | [], k, c => by
  show (finC c k).2.2 = 0 ∨ (finC c k).1 = zeroC
  unfold finC
  split
  ·exact .inr rfl
  split
  ·exact .inl rfl
  ·exact .inr rfl
 | [w], k, c => by
  show (if w = [] then finC c k else (zeroC, (k : Int), (25 : Int))).2.2 = 0 ∨ (if w = [] then finC c k else (zeroC, (k : Int), (25 : Int))).1 = zeroC
  split
  ·exact parseC_err f [] k c
  ·exact .inr rfl
 | w :: a :: r, k, c => by
  rw [parseC_cons f (w := w) (r := a :: r) (by simp)]
  split
  ·exact parseC_err f (a :: r) _ _
  ·exact .inr rfl
theorem parse_len (s : ByteArray) : (parseT s).1.1.length ≤ 1000000 ∧ (parseT s).1.2.1.length ≤ 1000000 := by
 have h : (parseT s).2.2 = 0 ∨ (parseT s).1 = zeroC := by
  unfold parseT
  split
  ·exact .inr rfl
  ·exact parseC_err _ _ _ _
 rcases h with h | h
 ·have hv := cabS_V (parse_back h).1
  have := hv.2.1
  have := hv.2.2.2.1
  omega
 ·rw [h]
  exact ⟨by decide, by decide⟩
def cTexts : Con := { args := [aCR, taS], ress := [Bo], owns := [], pre := fun _ => [], spec := fun _ => (true, ()) }
def vc14_0 (c : Cab) (s : ByteArray) := (c.1, c.2.1, c.2.2.1, c.2.2.2)
def vc14_1 (c : Cab) (s : ByteArray) := (if cabS (vc14_0 c s) = (0 : Int) then printS (vc14_0 c s) else ByteArray.mk (Array.mk []))
def vc14_2 (c : Cab) (s : ByteArray) := (bif ByteArray.toList (vc14_1 c s) == ByteArray.toList (bs (outP (vc14_0 c s) ((2 : Nat) * List.length c.1))) then cabS (vc14_0 c s) == cabS (vc14_0 c s) else false)
def vc14_3 (c : Cab) (s : ByteArray) := (bif ByteArray.toList (vc14_1 c s) == ByteArray.toList (ByteArray.mk (Array.mk [])) then cabS (vc14_0 c s) == cabS (vc14_0 c s) else false)
theorem vc14 : ∀ (c : Cab) (s : ByteArray), wpF Tryz.prog G146 (na ()) Tryz.f14 cTexts (c, s, ()) = (((bif bif false then true else !shortS (vc14_0 c s) then true else bif decide (300 < (↑(ByteArray.size s) : Int)) then (↑(ByteArray.size s) : Int) != 4097 else false) = true → true = true) ∧ ((bif bif false then true else !shortS (vc14_0 c s) then true else bif decide (300 < (↑(ByteArray.size s) : Int)) then (↑(ByteArray.size s) : Int) != 4097 else false) = false → (List.length c.1 ≤ 1000000 ∧ List.length c.2.1 ≤ 1000000 ∧ List.length c.1 ≤ 1000000 ∧ List.length c.2.1 ≤ 1000000) ∧ (List.length c.1 ≤ 1000000 ∧ List.length c.2.1 ≤ 1000000) ∧ ((cabS (vc14_0 c s) == 0) = true → cabS (vc14_0 c s) = 0 ∧ (((vc14_2 c s) = true → List.length (parseT s).1.1 ≤ 1000000) ∧ ((vc14_2 c s) = true → List.length (parseT s).1.2.1 ≤ 1000000) ∧ ((vc14_2 c s) = true → List.length (parseT s).1.1 ≤ 1000000) ∧ ((vc14_2 c s) = true → List.length (parseT s).1.2.1 ≤ 1000000)) ∧ (bif bif bif bif ByteArray.toList (vc14_1 c s) == ByteArray.toList (bs (outP (vc14_0 c s) (2 * List.length c.1))) then cabS (vc14_0 c s) == cabS (vc14_0 c s) else false then decide (((parseT s).1.1, (parseT s).1.2.1, (parseT s).1.2.2.1, (parseT s).1.2.2.2) = ((parseU s).1.1, (parseU s).1.2.1, (parseU s).1.2.2.1, (parseU s).1.2.2.2)) else false then (parseT s).2.1 == (parseU s).2.1 else false then (parseT s).2.2 == (parseU s).2.2 else false) = true) ∧ ((cabS (vc14_0 c s) == 0) = false → (((vc14_3 c s) = true → List.length (parseT s).1.1 ≤ 1000000) ∧ ((vc14_3 c s) = true → List.length (parseT s).1.2.1 ≤ 1000000) ∧ ((vc14_3 c s) = true → List.length (parseT s).1.1 ≤ 1000000) ∧ ((vc14_3 c s) = true → List.length (parseT s).1.2.1 ≤ 1000000)) ∧ (bif bif bif bif ByteArray.toList (vc14_1 c s) == ByteArray.toList (ByteArray.mk (Array.mk [])) then cabS (vc14_0 c s) == cabS (vc14_0 c s) else false then decide (((parseT s).1.1, (parseT s).1.2.1, (parseT s).1.2.2.1, (parseT s).1.2.2.2) = ((parseU s).1.1, (parseU s).1.2.1, (parseU s).1.2.2.1, (parseU s).1.2.2.2)) else false then (parseT s).2.1 == (parseU s).2.1 else false then (parseT s).2.2 == (parseU s).2.2 else false) = true))) := by
 intros
 kernel_rfl
theorem wp14 (c : Cab) (s : ByteArray) : wpF Tryz.prog G146 (na ()) Tryz.f14 cTexts (c, s, ()) := by
 refine (vc14 c s).mpr ?_
 delta vc14_0 vc14_1 vc14_2 vc14_3
 rw [← parseT_eq s]
 have hl := parse_len s
 rcases c with ⟨S, J, p, q⟩
 revert hl
 rcases parseT s with ⟨⟨S2, J2, p2, q2⟩, n2, e2⟩
 rintro ⟨l1, l2⟩
 dsimp only at l1 l2 ⊢
 refine ⟨fun _ => rfl, fun h => ?_⟩
 have hsh := (bnT.1 h).1
 obtain ⟨a1, a2⟩ := short_len (c := (S, J, p, q)) hsh
 dsimp only at a1 a2
 refine ⟨⟨by omega, by omega, by omega, by omega⟩, ⟨by omega, by omega⟩, fun h0 => ?_, fun h0 => ?_⟩
 ·have hc : cabS (S, J, p, q) = 0 := eqz.1 h0
  have hv := cabS_V hc
  have hp : printS (S, J, p, q) = bs (outP (S, J, p, q) (2 * S.length)) := printS_eq (c := (S, J, p, q)) hv.1
  rw [if_pos hc, hp]
  exact ⟨hc, ⟨fun _ => l1, fun _ => l2, fun _ => l1, fun _ => l2⟩, by simp⟩
 ·have hc : ¬ cabS (S, J, p, q) = 0 := nez.1 h0
  rw [if_neg hc]
  exact ⟨⟨fun _ => l1, fun _ => l2, fun _ => l1, fun _ => l2⟩, by simp⟩
theorem ok14 : Ok Tryz.prog 14 cTexts := ok_of_wp mixed g146 (by kernel_rfl) (by kernel_rfl) na fun xx => wp14 xx.1 xx.2.1
end Go.Proofs.YtcledkhhecdppaaGreatDoor
