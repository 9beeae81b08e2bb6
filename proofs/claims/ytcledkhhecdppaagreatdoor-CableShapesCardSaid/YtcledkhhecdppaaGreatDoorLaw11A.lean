/- The law walked: part of the proof. -/
import Derived.Test.YtcledkhhecdppaaGreatDoorFC
set_option linter.unusedSimpArgs false
set_option linter.unusedVariables false
set_option maxRecDepth 20000
namespace Go.Proofs.YtcledkhhecdppaaGreatDoor
open Go.Sx
set_option maxHeartbeats 20000000
set_option pp.deepTerms true
set_option pp.maxSteps 1000000
def cShapesL : Con := { args := [aCR, aI, aP], ress := [Bo], owns := [], pre := fun _ => [], spec := fun _ => (true, ()) }
theorem place_two : ∀ {l : List (Int × Int)} {a n : Int}, okL l → placeGo 2 l a (2 * n) = placeGo 1 l a n
 | [], a, n, _ => rfl
 | x :: l, a, n, h => by
  have hx := h x (List.mem_cons_self ..)
  have ih := place_two (l := l) (a := a + x.1) (n := n - x.2 * 1) fun y hy => h y (List.mem_cons_of_mem _ hy)
  simp only [placeGo]
  rw [show 2 * n - x.2 * 2 = 2 * (n - x.2 * 1) by omega, ih]
  by_cases hn : n ≤ x.2 * 1
  ·rw [if_pos hn, if_pos (by omega)]
   refine low_eq (by omega) (by omega) ?_
   rw [show x.1 * (2 * n) = 2 * (x.1 * n) by rw [Int.mul_left_comm], Int.mul_one, Int.mul_one, Int.add_mul, Int.add_mul]
   grind
  ·rw [if_neg hn, if_neg (by omega)]
theorem sh0 {c : Cab} (hc : cabS c = 0) : lengthF c = sumS c.1 ∧ revP c = revC c ∧ ∀ t, placeE c t = withinS t 0 (sumS c.1).2 := by
 refine ⟨?_, ?_, fun t => ?_⟩
 ·unfold lengthF; rw [if_pos hc]
 ·exact (by unfold revP; rw [if_pos hc])
 ·unfold placeE; rw [if_pos hc]
theorem sh1 {c : Cab} (hc : ¬ cabS c = 0) : lengthF c = (0, 0) ∧ revP c = ([], [], 0, 0) ∧ (∀ t, placeE c t = cabS c ∧ placeF c t = (0, 0)) ∧ ∀ s t, splE c s t = cabS c ∧ splF c s t = ([], [], 0, 0) ∧ splEE c s t = cabS c := by
 have h1 : ∀ t, placeE c t = cabS c := fun t => by unfold placeE; rw [if_neg hc]
 have h2 : ∀ s t, splE c s t = cabS c := fun s t => by unfold splE; rw [if_neg hc]
 refine ⟨?_, ?_, fun t => ⟨h1 t, ?_⟩, fun s t => ⟨h2 s t, ?_, ?_⟩⟩
 ·unfold lengthF; rw [if_neg hc]
 ·unfold revP; rw [if_neg hc]
 ·unfold placeF; rw [h1 t, if_neg hc]
 ·unfold splF; rw [h2 s t, if_neg hc]
 ·unfold splEE; rw [h2 s t, if_neg hc]
theorem sh2 {c : Cab} {t : Int} (hc : cabS c = 0) (h : withinS t 0 (sumS c.1).2 = 0) : placeF c t = placeGo 1 c.1 0 t := by
 have e := (sh0 hc).2.2 t
 unfold placeF
 rw [e, if_pos h]
 exact place_two (cabS_V hc).2.2.1
theorem sh3 {c : Cab} {t : Int} (hc : cabS c = 0) (h : ¬ withinS t 0 (sumS c.1).2 = 0) : placeF c t = (0, 0) := by
 have e := (sh0 hc).2.2 t
 unfold placeF
 rw [e, if_neg h]
theorem sh4 {c : Cab} {s t : Int} (h : splE c s t = 0) : splF c s t = splG c s t ∧ splEE c s t = splGE c s t := by
 unfold splF splEE; rw [if_pos h, if_pos h]; exact ⟨rfl, rfl⟩
theorem sh5 {c : Cab} {s t : Int} (h : ¬ splE c s t = 0) : splF c s t = ([], [], 0, 0) ∧ splEE c s t = splE c s t := by
 unfold splF splEE; rw [if_neg h, if_neg h]; exact ⟨rfl, rfl⟩
theorem sh6 {c : Cab} {s t : Int} (h : splE c s t = 0) : (splG c s t).1.length ≤ 1000000 ∧ (splG c s t).2.1.length ≤ 1000000 := by
 unfold splG
 split
 ·rename_i hg
  have hc : cabS c = 0 := by
   by_cases hc : cabS c = 0
   ·exact hc
   ·have := ((sh1 hc).2.2.2 s t).1; rw [this] at h; exact absurd h hc
  have hs : secE c s = 0 := by
   unfold splE at h
   rw [if_pos hc] at h
   by_cases hs : secE c s = 0
   ·exact hs
   ·rw [if_neg hs] at h; cases h
  have hr := secE_zero.1 hs
  have hl := (cabS_V hc).2.1
  have hj := (cabS_V hc).2.2.2.1
  constructor
  ·show (splitL c.1 s.toNat t).length ≤ _
   rw [splitL_len (by omega)]; omega
  ·show (newJ c s.toNat).length ≤ _
   rw [newJ_len (by omega)]; omega
 ·exact ⟨Nat.zero_le _, Nat.zero_le _⟩
theorem sh7 {c : Cab} (h1 : c.1.length ≤ 1000000) (h2 : c.2.1.length ≤ 1000000) : (revC c).1.length ≤ 1000000 ∧ (revC c).2.1.length ≤ 1000000 := by
 unfold revC
 simp [h1, h2]
def vc11_0 (c : Cab) (t : Int) (p : Int × Int) := (c.1, c.2.1, c.2.2.1, c.2.2.2)
def vc11_1 (c : Cab) (t : Int) (p : Int × Int) := (bif bif bif bif bif bif cabS (vc11_0 c t p) == cabS (vc11_0 c t p) then (lengthF (vc11_0 c t p)).1 == (sumS c.1).1 && ((lengthF (vc11_0 c t p)).2 == (sumS c.1).2 && true) else false then cabS (vc11_0 c t p) == cabS (vc11_0 c t p) else false then (placeF (vc11_0 c t p) t).1 == (placeGo (1 : Int) c.1 (0 : Int) t).1 && ((placeF (vc11_0 c t p) t).2 == (placeGo (1 : Int) c.1 (0 : Int) t).2 && true) else false then placeE (vc11_0 c t p) t == withinS t (0 : Int) (sumS c.1).2 else false then decide (((revP (vc11_0 c t p)).1, (revP (vc11_0 c t p)).2.1, (revP (vc11_0 c t p)).2.2.1, (revP (vc11_0 c t p)).2.2.2) = ((revC (vc11_0 c t p)).1, (revC (vc11_0 c t p)).2.1, (revC (vc11_0 c t p)).2.2.1, (revC (vc11_0 c t p)).2.2.2)) else false then cabS (vc11_0 c t p) == cabS (vc11_0 c t p) else false)
def vc11_2 (c : Cab) (t : Int) (p : Int × Int) := (bif bif bif bif bif bif cabS (vc11_0 c t p) == cabS (vc11_0 c t p) then (lengthF (vc11_0 c t p)).1 == (sumS c.1).1 && ((lengthF (vc11_0 c t p)).2 == (sumS c.1).2 && true) else false then cabS (vc11_0 c t p) == cabS (vc11_0 c t p) else false then (placeF (vc11_0 c t p) t).1 == (0 : Int) && ((placeF (vc11_0 c t p) t).2 == (0 : Int) && true) else false then placeE (vc11_0 c t p) t == withinS t (0 : Int) (sumS c.1).2 else false then decide (((revP (vc11_0 c t p)).1, (revP (vc11_0 c t p)).2.1, (revP (vc11_0 c t p)).2.2.1, (revP (vc11_0 c t p)).2.2.2) = ((revC (vc11_0 c t p)).1, (revC (vc11_0 c t p)).2.1, (revC (vc11_0 c t p)).2.2.1, (revC (vc11_0 c t p)).2.2.2)) else false then cabS (vc11_0 c t p) == cabS (vc11_0 c t p) else false)
def vc11_3 (c : Cab) (t : Int) (p : Int × Int) := (bif bif bif bif bif bif cabS (vc11_0 c t p) == cabS (vc11_0 c t p) then (lengthF (vc11_0 c t p)).1 == (0 : Int) && ((lengthF (vc11_0 c t p)).2 == (0 : Int) && true) else false then cabS (vc11_0 c t p) == cabS (vc11_0 c t p) else false then (placeF (vc11_0 c t p) t).1 == (placeGo (1 : Int) c.1 (0 : Int) t).1 && ((placeF (vc11_0 c t p) t).2 == (placeGo (1 : Int) c.1 (0 : Int) t).2 && true) else false then placeE (vc11_0 c t p) t == cabS (vc11_0 c t p) else false then decide (((revP (vc11_0 c t p)).1, (revP (vc11_0 c t p)).2.1, (revP (vc11_0 c t p)).2.2.1, (revP (vc11_0 c t p)).2.2.2) = ([], [], (0 : Int), (0 : Int))) else false then cabS (vc11_0 c t p) == cabS (vc11_0 c t p) else false)
def vc11_4 (c : Cab) (t : Int) (p : Int × Int) := (bif bif bif bif bif bif cabS (vc11_0 c t p) == cabS (vc11_0 c t p) then (lengthF (vc11_0 c t p)).1 == (0 : Int) && ((lengthF (vc11_0 c t p)).2 == (0 : Int) && true) else false then cabS (vc11_0 c t p) == cabS (vc11_0 c t p) else false then (placeF (vc11_0 c t p) t).1 == (0 : Int) && ((placeF (vc11_0 c t p) t).2 == (0 : Int) && true) else false then placeE (vc11_0 c t p) t == cabS (vc11_0 c t p) else false then decide (((revP (vc11_0 c t p)).1, (revP (vc11_0 c t p)).2.1, (revP (vc11_0 c t p)).2.2.1, (revP (vc11_0 c t p)).2.2.2) = ([], [], (0 : Int), (0 : Int))) else false then cabS (vc11_0 c t p) == cabS (vc11_0 c t p) else false)
def vc11_5 (c : Cab) (t : Int) (p : Int × Int) := (bif bif bif bif cabS (vc11_0 c t p) == cabS (vc11_0 c t p) then (lengthF (vc11_0 c t p)).1 == (sumS c.1).1 && ((lengthF (vc11_0 c t p)).2 == (sumS c.1).2 && true) else false then cabS (vc11_0 c t p) == cabS (vc11_0 c t p) else false then (placeF (vc11_0 c t p) t).1 == (placeGo (1 : Int) c.1 (0 : Int) t).1 && ((placeF (vc11_0 c t p) t).2 == (placeGo (1 : Int) c.1 (0 : Int) t).2 && true) else false then placeE (vc11_0 c t p) t == withinS t (0 : Int) (sumS c.1).2 else false)
def vc11_6 (c : Cab) (t : Int) (p : Int × Int) := (bif bif bif bif cabS (vc11_0 c t p) == cabS (vc11_0 c t p) then (lengthF (vc11_0 c t p)).1 == (0 : Int) && ((lengthF (vc11_0 c t p)).2 == (0 : Int) && true) else false then cabS (vc11_0 c t p) == cabS (vc11_0 c t p) else false then (placeF (vc11_0 c t p) t).1 == (placeGo (1 : Int) c.1 (0 : Int) t).1 && ((placeF (vc11_0 c t p) t).2 == (placeGo (1 : Int) c.1 (0 : Int) t).2 && true) else false then placeE (vc11_0 c t p) t == cabS (vc11_0 c t p) else false)
def vc11_7 (c : Cab) (t : Int) (p : Int × Int) := (bif bif bif bif cabS (vc11_0 c t p) == cabS (vc11_0 c t p) then (lengthF (vc11_0 c t p)).1 == (sumS c.1).1 && ((lengthF (vc11_0 c t p)).2 == (sumS c.1).2 && true) else false then cabS (vc11_0 c t p) == cabS (vc11_0 c t p) else false then (placeF (vc11_0 c t p) t).1 == (0 : Int) && ((placeF (vc11_0 c t p) t).2 == (0 : Int) && true) else false then placeE (vc11_0 c t p) t == withinS t (0 : Int) (sumS c.1).2 else false)
def vc11_8 (c : Cab) (t : Int) (p : Int × Int) := (bif bif bif bif cabS (vc11_0 c t p) == cabS (vc11_0 c t p) then (lengthF (vc11_0 c t p)).1 == (0 : Int) && ((lengthF (vc11_0 c t p)).2 == (0 : Int) && true) else false then cabS (vc11_0 c t p) == cabS (vc11_0 c t p) else false then (placeF (vc11_0 c t p) t).1 == (0 : Int) && ((placeF (vc11_0 c t p) t).2 == (0 : Int) && true) else false then placeE (vc11_0 c t p) t == cabS (vc11_0 c t p) else false)
def vc11_9 (c : Cab) (t : Int) (p : Int × Int) := ((splF (vc11_0 c t p) p.1 p.2).1, (splF (vc11_0 c t p) p.1 p.2).2.1, (splF (vc11_0 c t p) p.1 p.2).2.2.1, (splF (vc11_0 c t p) p.1 p.2).2.2.2)
def vc11_10 (c : Cab) (t : Int) (p : Int × Int) := (List.length c.1 ≤ (1000000 : Nat) ∧ List.length c.2.1 ≤ (1000000 : Nat) ∧ List.length c.1 ≤ (1000000 : Nat) ∧ List.length c.2.1 ≤ (1000000 : Nat) ∧ ((vc11_5 c t p) = true → List.length (revP (vc11_0 c t p)).1 ≤ (1000000 : Nat)) ∧ ((vc11_5 c t p) = true → List.length (revP (vc11_0 c t p)).2.1 ≤ (1000000 : Nat)) ∧ ((vc11_5 c t p) = true → List.length (revP (vc11_0 c t p)).1 ≤ (1000000 : Nat)) ∧ ((vc11_5 c t p) = true → List.length (revP (vc11_0 c t p)).2.1 ≤ (1000000 : Nat)) ∧ ((vc11_1 c t p) = true → List.length (splF (vc11_0 c t p) p.1 p.2).1 ≤ (1000000 : Nat)) ∧ ((vc11_1 c t p) = true → List.length (splF (vc11_0 c t p) p.1 p.2).2.1 ≤ (1000000 : Nat)) ∧ ((vc11_1 c t p) = true → List.length (splF (vc11_0 c t p) p.1 p.2).1 ≤ (1000000 : Nat)) ∧ ((vc11_1 c t p) = true → List.length (splF (vc11_0 c t p) p.1 p.2).2.1 ≤ (1000000 : Nat)))
def vc11_11 (c : Cab) (t : Int) (p : Int × Int) := (List.length c.1 ≤ (1000000 : Nat) ∧ List.length c.2.1 ≤ (1000000 : Nat) ∧ List.length c.1 ≤ (1000000 : Nat) ∧ List.length c.2.1 ≤ (1000000 : Nat) ∧ ((vc11_7 c t p) = true → List.length (revP (vc11_0 c t p)).1 ≤ (1000000 : Nat)) ∧ ((vc11_7 c t p) = true → List.length (revP (vc11_0 c t p)).2.1 ≤ (1000000 : Nat)) ∧ ((vc11_7 c t p) = true → List.length (revP (vc11_0 c t p)).1 ≤ (1000000 : Nat)) ∧ ((vc11_7 c t p) = true → List.length (revP (vc11_0 c t p)).2.1 ≤ (1000000 : Nat)) ∧ ((vc11_2 c t p) = true → List.length (splF (vc11_0 c t p) p.1 p.2).1 ≤ (1000000 : Nat)) ∧ ((vc11_2 c t p) = true → List.length (splF (vc11_0 c t p) p.1 p.2).2.1 ≤ (1000000 : Nat)) ∧ ((vc11_2 c t p) = true → List.length (splF (vc11_0 c t p) p.1 p.2).1 ≤ (1000000 : Nat)) ∧ ((vc11_2 c t p) = true → List.length (splF (vc11_0 c t p) p.1 p.2).2.1 ≤ (1000000 : Nat)))
def vc11_12 (c : Cab) (t : Int) (p : Int × Int) := (List.length c.1 ≤ (1000000 : Nat) ∧ List.length c.2.1 ≤ (1000000 : Nat) ∧ List.length c.1 ≤ (1000000 : Nat) ∧ List.length c.2.1 ≤ (1000000 : Nat) ∧ ((vc11_6 c t p) = true → List.length (revP (vc11_0 c t p)).1 ≤ (1000000 : Nat)) ∧ ((vc11_6 c t p) = true → List.length (revP (vc11_0 c t p)).2.1 ≤ (1000000 : Nat)) ∧ ((vc11_6 c t p) = true → List.length (revP (vc11_0 c t p)).1 ≤ (1000000 : Nat)) ∧ ((vc11_6 c t p) = true → List.length (revP (vc11_0 c t p)).2.1 ≤ (1000000 : Nat)) ∧ ((vc11_3 c t p) = true → List.length (splF (vc11_0 c t p) p.1 p.2).1 ≤ (1000000 : Nat)) ∧ ((vc11_3 c t p) = true → List.length (splF (vc11_0 c t p) p.1 p.2).2.1 ≤ (1000000 : Nat)) ∧ ((vc11_3 c t p) = true → List.length (splF (vc11_0 c t p) p.1 p.2).1 ≤ (1000000 : Nat)) ∧ ((vc11_3 c t p) = true → List.length (splF (vc11_0 c t p) p.1 p.2).2.1 ≤ (1000000 : Nat)))
def vc11_13 (c : Cab) (t : Int) (p : Int × Int) := (List.length c.1 ≤ (1000000 : Nat) ∧ List.length c.2.1 ≤ (1000000 : Nat) ∧ List.length c.1 ≤ (1000000 : Nat) ∧ List.length c.2.1 ≤ (1000000 : Nat) ∧ ((vc11_8 c t p) = true → List.length (revP (vc11_0 c t p)).1 ≤ (1000000 : Nat)) ∧ ((vc11_8 c t p) = true → List.length (revP (vc11_0 c t p)).2.1 ≤ (1000000 : Nat)) ∧ ((vc11_8 c t p) = true → List.length (revP (vc11_0 c t p)).1 ≤ (1000000 : Nat)) ∧ ((vc11_8 c t p) = true → List.length (revP (vc11_0 c t p)).2.1 ≤ (1000000 : Nat)) ∧ ((vc11_4 c t p) = true → List.length (splF (vc11_0 c t p) p.1 p.2).1 ≤ (1000000 : Nat)) ∧ ((vc11_4 c t p) = true → List.length (splF (vc11_0 c t p) p.1 p.2).2.1 ≤ (1000000 : Nat)) ∧ ((vc11_4 c t p) = true → List.length (splF (vc11_0 c t p) p.1 p.2).1 ≤ (1000000 : Nat)) ∧ ((vc11_4 c t p) = true → List.length (splF (vc11_0 c t p) p.1 p.2).2.1 ≤ (1000000 : Nat)))
def vc11_14 (c : Cab) (t : Int) (p : Int × Int) := ((revP (vc11_0 c t p)).1, (revP (vc11_0 c t p)).2.1, (revP (vc11_0 c t p)).2.2.1, (revP (vc11_0 c t p)).2.2.2)
def vc11_15 (c : Cab) (t : Int) (p : Int × Int) := ((splG (vc11_0 c t p) p.1 p.2).1, (splG (vc11_0 c t p) p.1 p.2).2.1, (splG (vc11_0 c t p) p.1 p.2).2.2.1, (splG (vc11_0 c t p) p.1 p.2).2.2.2)
def vc11_16 (c : Cab) (t : Int) (p : Int × Int) := (List.length c.1 ≤ (1000000 : Nat) ∧ List.length c.2.1 ≤ (1000000 : Nat) ∧ List.length c.1 ≤ (1000000 : Nat) ∧ List.length c.2.1 ≤ (1000000 : Nat))
def vc11_17 (c : Cab) (t : Int) (p : Int × Int) := ((revC (vc11_0 c t p)).1, (revC (vc11_0 c t p)).2.1, (revC (vc11_0 c t p)).2.2.1, (revC (vc11_0 c t p)).2.2.2)
def vc11_18 (c : Cab) (t : Int) (p : Int × Int) := (splE (vc11_0 c t p) p.1 p.2 == (0 : Int))
def vc11_19 (c : Cab) (t : Int) (p : Int × Int) := ((placeF (vc11_0 c t p) t).2 == (placeGo (1 : Int) c.1 (0 : Int) t).2 && true)
theorem vc11 : ∀ (c : Cab) (t : Int) (p : Int × Int), wpF Tryz.prog G133 (na ()) Tryz.f11 cShapesL (c, t, p, ()) = (((bif false then true else !shortS (vc11_0 c t p)) = true → true = true) ∧ ((bif false then true else !shortS (vc11_0 c t p)) = false → (vc11_16 c t p) ∧ (vc11_16 c t p) ∧ (vc11_16 c t p) ∧ (vc11_16 c t p) ∧ (List.length c.1 ≤ 1000000 ∧ List.length c.2.1 ≤ 1000000) ∧ (List.length c.1 ≤ 1000000 ∧ List.length c.2.1 ≤ 1000000) ∧ ((cabS (vc11_0 c t p) == 0) = true → (cabS (vc11_0 c t p) = 0 ∧ cabS (vc11_0 c t p) = 0) ∧ ((withinS t 0 (sumS c.1).2 == 0) = true → (cabS (vc11_0 c t p) = 0 ∧ ((-1000000000000) ≤ t ∧ t ≤ 1000000000000) ∧ (0 : Int) < 1 ∧ (1 : Int) ≤ 2) ∧ ((vc11_18 c t p) = true → splE (vc11_0 c t p) p.1 p.2 = 0 ∧ (vc11_10 c t p) ∧ (bif bif bif bif bif bif bif bif cabS (vc11_0 c t p) == cabS (vc11_0 c t p) then (lengthF (vc11_0 c t p)).1 == (sumS c.1).1 && ((lengthF (vc11_0 c t p)).2 == (sumS c.1).2 && true) else false then cabS (vc11_0 c t p) == cabS (vc11_0 c t p) else false then (placeF (vc11_0 c t p) t).1 == (placeGo 1 c.1 0 t).1 && (vc11_19 c t p) else false then placeE (vc11_0 c t p) t == withinS t 0 (sumS c.1).2 else false then decide ((vc11_14 c t p) = (vc11_17 c t p)) else false then cabS (vc11_0 c t p) == cabS (vc11_0 c t p) else false then decide ((vc11_9 c t p) = (vc11_15 c t p)) else false then splEE (vc11_0 c t p) p.1 p.2 == splGE (vc11_0 c t p) p.1 p.2 else false) = true) ∧ ((vc11_18 c t p) = false → (vc11_10 c t p) ∧ (bif bif bif bif bif bif bif bif cabS (vc11_0 c t p) == cabS (vc11_0 c t p) then (lengthF (vc11_0 c t p)).1 == (sumS c.1).1 && ((lengthF (vc11_0 c t p)).2 == (sumS c.1).2 && true) else false then cabS (vc11_0 c t p) == cabS (vc11_0 c t p) else false then (placeF (vc11_0 c t p) t).1 == (placeGo 1 c.1 0 t).1 && (vc11_19 c t p) else false then placeE (vc11_0 c t p) t == withinS t 0 (sumS c.1).2 else false then decide ((vc11_14 c t p) = (vc11_17 c t p)) else false then cabS (vc11_0 c t p) == cabS (vc11_0 c t p) else false then decide ((vc11_9 c t p) = ([], [], 0, 0)) else false then splEE (vc11_0 c t p) p.1 p.2 == splE (vc11_0 c t p) p.1 p.2 else false) = true)) ∧ ((withinS t 0 (sumS c.1).2 == 0) = false → ((vc11_18 c t p) = true → splE (vc11_0 c t p) p.1 p.2 = 0 ∧ (vc11_11 c t p) ∧ (bif bif bif bif bif bif bif bif cabS (vc11_0 c t p) == cabS (vc11_0 c t p) then (lengthF (vc11_0 c t p)).1 == (sumS c.1).1 && ((lengthF (vc11_0 c t p)).2 == (sumS c.1).2 && true) else false then cabS (vc11_0 c t p) == cabS (vc11_0 c t p) else false then (placeF (vc11_0 c t p) t).1 == 0 && ((placeF (vc11_0 c t p) t).2 == 0 && true) else false then placeE (vc11_0 c t p) t == withinS t 0 (sumS c.1).2 else false then decide ((vc11_14 c t p) = (vc11_17 c t p)) else false then cabS (vc11_0 c t p) == cabS (vc11_0 c t p) else false then decide ((vc11_9 c t p) = (vc11_15 c t p)) else false then splEE (vc11_0 c t p) p.1 p.2 == splGE (vc11_0 c t p) p.1 p.2 else false) = true) ∧ ((vc11_18 c t p) = false → (vc11_11 c t p) ∧ (bif bif bif bif bif bif bif bif cabS (vc11_0 c t p) == cabS (vc11_0 c t p) then (lengthF (vc11_0 c t p)).1 == (sumS c.1).1 && ((lengthF (vc11_0 c t p)).2 == (sumS c.1).2 && true) else false then cabS (vc11_0 c t p) == cabS (vc11_0 c t p) else false then (placeF (vc11_0 c t p) t).1 == 0 && ((placeF (vc11_0 c t p) t).2 == 0 && true) else false then placeE (vc11_0 c t p) t == withinS t 0 (sumS c.1).2 else false then decide ((vc11_14 c t p) = (vc11_17 c t p)) else false then cabS (vc11_0 c t p) == cabS (vc11_0 c t p) else false then decide ((vc11_9 c t p) = ([], [], 0, 0)) else false then splEE (vc11_0 c t p) p.1 p.2 == splE (vc11_0 c t p) p.1 p.2 else false) = true))) ∧ ((cabS (vc11_0 c t p) == 0) = false → ((cabS (vc11_0 c t p) == 0) = true → (cabS (vc11_0 c t p) = 0 ∧ ((-1000000000000) ≤ t ∧ t ≤ 1000000000000) ∧ (0 : Int) < 1 ∧ (1 : Int) ≤ 2) ∧ ((vc11_18 c t p) = true → splE (vc11_0 c t p) p.1 p.2 = 0 ∧ (vc11_12 c t p) ∧ (bif bif bif bif bif bif bif bif cabS (vc11_0 c t p) == cabS (vc11_0 c t p) then (lengthF (vc11_0 c t p)).1 == 0 && ((lengthF (vc11_0 c t p)).2 == 0 && true) else false then cabS (vc11_0 c t p) == cabS (vc11_0 c t p) else false then (placeF (vc11_0 c t p) t).1 == (placeGo 1 c.1 0 t).1 && (vc11_19 c t p) else false then placeE (vc11_0 c t p) t == cabS (vc11_0 c t p) else false then decide ((vc11_14 c t p) = ([], [], 0, 0)) else false then cabS (vc11_0 c t p) == cabS (vc11_0 c t p) else false then decide ((vc11_9 c t p) = (vc11_15 c t p)) else false then splEE (vc11_0 c t p) p.1 p.2 == splGE (vc11_0 c t p) p.1 p.2 else false) = true) ∧ ((vc11_18 c t p) = false → (vc11_12 c t p) ∧ (bif bif bif bif bif bif bif bif cabS (vc11_0 c t p) == cabS (vc11_0 c t p) then (lengthF (vc11_0 c t p)).1 == 0 && ((lengthF (vc11_0 c t p)).2 == 0 && true) else false then cabS (vc11_0 c t p) == cabS (vc11_0 c t p) else false then (placeF (vc11_0 c t p) t).1 == (placeGo 1 c.1 0 t).1 && (vc11_19 c t p) else false then placeE (vc11_0 c t p) t == cabS (vc11_0 c t p) else false then decide ((vc11_14 c t p) = ([], [], 0, 0)) else false then cabS (vc11_0 c t p) == cabS (vc11_0 c t p) else false then decide ((vc11_9 c t p) = ([], [], 0, 0)) else false then splEE (vc11_0 c t p) p.1 p.2 == splE (vc11_0 c t p) p.1 p.2 else false) = true)) ∧ ((cabS (vc11_0 c t p) == 0) = false → ((vc11_18 c t p) = true → splE (vc11_0 c t p) p.1 p.2 = 0 ∧ (vc11_13 c t p) ∧ (bif bif bif bif bif bif bif bif cabS (vc11_0 c t p) == cabS (vc11_0 c t p) then (lengthF (vc11_0 c t p)).1 == 0 && ((lengthF (vc11_0 c t p)).2 == 0 && true) else false then cabS (vc11_0 c t p) == cabS (vc11_0 c t p) else false then (placeF (vc11_0 c t p) t).1 == 0 && ((placeF (vc11_0 c t p) t).2 == 0 && true) else false then placeE (vc11_0 c t p) t == cabS (vc11_0 c t p) else false then decide ((vc11_14 c t p) = ([], [], 0, 0)) else false then cabS (vc11_0 c t p) == cabS (vc11_0 c t p) else false then decide ((vc11_9 c t p) = (vc11_15 c t p)) else false then splEE (vc11_0 c t p) p.1 p.2 == splGE (vc11_0 c t p) p.1 p.2 else false) = true) ∧ ((vc11_18 c t p) = false → (vc11_13 c t p) ∧ (bif bif bif bif bif bif bif bif cabS (vc11_0 c t p) == cabS (vc11_0 c t p) then (lengthF (vc11_0 c t p)).1 == 0 && ((lengthF (vc11_0 c t p)).2 == 0 && true) else false then cabS (vc11_0 c t p) == cabS (vc11_0 c t p) else false then (placeF (vc11_0 c t p) t).1 == 0 && ((placeF (vc11_0 c t p) t).2 == 0 && true) else false then placeE (vc11_0 c t p) t == cabS (vc11_0 c t p) else false then decide ((vc11_14 c t p) = ([], [], 0, 0)) else false then cabS (vc11_0 c t p) == cabS (vc11_0 c t p) else false then decide ((vc11_9 c t p) = ([], [], 0, 0)) else false then splEE (vc11_0 c t p) p.1 p.2 == splE (vc11_0 c t p) p.1 p.2 else false) = true))))) := by
 intros
 kernel_rfl
theorem wp11 (c : Cab) (t : Int) (p : Int × Int) : wpF Tryz.prog G133 (na ()) Tryz.f11 cShapesL (c, t, p, ()) := by
 refine (vc11 c t p).mpr ?_
 delta vc11_0 vc11_1 vc11_2 vc11_3 vc11_4 vc11_5 vc11_6 vc11_7 vc11_8 vc11_9 vc11_10 vc11_11 vc11_12 vc11_13 vc11_14 vc11_15 vc11_16 vc11_17 vc11_18 vc11_19
 obtain ⟨s, j, e0, e1⟩ := c
 obtain ⟨p0, p1⟩ := p
 dsimp only
 refine ⟨fun _ => rfl, fun h => ?_⟩
 have hs := short_len h
 have h1 : s.length ≤ 1000000 := Nat.le_trans hs.1 (by decide)
 have h2 : j.length ≤ 1000000 := Nat.le_trans hs.2 (by decide)
 clear h hs
 have es : s.length = ((s, j, e0, e1) : Cab).1.length := rfl
 have ej : j.length = ((s, j, e0, e1) : Cab).2.1.length := rfl
 have es2 : sumS s = sumS ((s, j, e0, e1) : Cab).1 := rfl
 have es3 : ∀ d a n, placeGo d s a n = placeGo d ((s, j, e0, e1) : Cab).1 a n := fun _ _ _ => rfl
 rw [es] at h1 ⊢
 rw [ej] at h2 ⊢
 simp only [es2, es3]
 generalize ((s, j, e0, e1) : Cab) = c at *
 obtain ⟨l1, l2⟩ := sh7 (c := c) h1 h2
 have k1 : s.length ≤ 1000000 := by omega
 have k2 : j.length ≤ 1000000 := by omega
 by_cases hc : cabS c = 0
 ·obtain ⟨a1, a2, a3⟩ := sh0 hc
  have a3 := a3 t
  have hbd := sumS_bd (cabS_V hc).2.2.1
  have hl := (cabS_V hc).2.1
  by_cases hw : withinS t 0 (sumS c.1).2 = 0
  ·have b1 := sh2 hc hw
   have hb := within_zero.1 hw
   have hb1 : -1000000000000 ≤ t := by omega
   have hb2 : t ≤ 1000000000000 := by omega
   by_cases hp : splE c p0 p1 = 0
   ·obtain ⟨g1, g2⟩ := sh4 hp
    obtain ⟨l3, l4⟩ := sh6 hp
    simp [hc, a1, a2, a3, hw, b1, hb1, hb2, hp, g1, g2, k1, k2, l1, l2, l3, l4]
   ·obtain ⟨g1, g2⟩ := sh5 hp
    simp [hc, a1, a2, a3, hw, b1, hb1, hb2, hp, g1, g2, k1, k2, l1, l2]
  ·have b1 := sh3 hc hw
   by_cases hp : splE c p0 p1 = 0
   ·obtain ⟨g1, g2⟩ := sh4 hp
    obtain ⟨l3, l4⟩ := sh6 hp
    simp [hc, a1, a2, a3, hw, b1, hp, g1, g2, k1, k2, l1, l2, l3, l4]
   ·obtain ⟨g1, g2⟩ := sh5 hp
    simp [hc, a1, a2, a3, hw, b1, hp, g1, g2, k1, k2, l1, l2]
 ·obtain ⟨a1, a2, a3, a4⟩ := sh1 hc
  obtain ⟨a5, a6⟩ := a3 t
  obtain ⟨a7, a8, a9⟩ := a4 p0 p1
  simp [hc, a1, a2, a5, a6, a7, a8, a9, k1, k2]
theorem ok11 : Ok Tryz.prog 11 cShapesL := ok_of_wp mixed g133 (by kernel_rfl) (by kernel_rfl) na fun xx => wp11 xx.1 xx.2.1 xx.2.2.1
end Go.Proofs.YtcledkhhecdppaaGreatDoor
