/- The law walked: part of the proof. -/
import Derived.Test.YtcledkhhecdppaaGreatDoorFC
set_option linter.unusedSimpArgs false
set_option linter.unusedVariables false
set_option maxRecDepth 20000
namespace Go.Proofs.YtcledkhhecdppaaGreatDoor
open Go.Sx
set_option maxHeartbeats 20000000
set_option pp.deepTerms true
set_option pp.maxSteps 1000000
def cWaves : Con := { args := [aCR, aF, aI], ress := [Bo], owns := [], pre := fun _ => [], spec := fun _ => (true, ()) }
theorem sameF_self : ∀ {l : List Nat}, (∀ x ∈ l, feq x x = true) → sameF l l = true
 | [], _ => rfl
 | x :: l, h => by
  simp only [sameF, Bool.and_eq_true]
  exact ⟨h x (by simp), sameF_self fun y hy => h y (by simp [hy])⟩
theorem rcA_self (l : List Arr) (e : ByteArray) (t : Int) : ∀ k, ∀ x ∈ rcA l e t k, feq x x = true
 | 0, x, h => by simp [rcA] at h
 | k + 1, x, h => by
  rcases List.mem_append.1 h with h | h
  ·exact rcA_self l e t k x h
  ·rw [List.mem_singleton] at h
   rw [h]; exact (smp_some _).2
theorem rcG_self (l : List Arr) (e : ByteArray) (t w : Int) : sameF (rcG l e t w) (rcG l e t w) = true := by
 unfold rcG
 split
 ·rfl
 ·exact sameF_self (rcA_self _ _ _ _)
theorem rcG_len (l : List Arr) (e : ByteArray) (t : Int) {w : Int} (h : 0 ≤ w ∧ w ≤ 1000) : (rcG l e t w).length ≤ 1000000 := by
 unfold rcG
 split
 ·simp
 ·rw [rcA_len]; omega
abbrev bA : ByteArray := ⟨⟨[65]⟩⟩
def vc3_0 (c : Cab) (f : Flt) (win : Int) := (f.fst, f.snd.fst, f.snd.snd.fst, f.snd.snd.snd)
def vc3_1 (c : Cab) (f : Flt) (win : Int) := (c.1, c.snd.1, c.snd.snd.fst, c.snd.snd.snd)
def vc3_2 (c : Cab) (f : Flt) (win : Int) := ((turnP (vc3_1 c f win) (vc3_0 c f win)).snd.fst == (turnF (vc3_1 c f win) (vc3_0 c f win)).snd.fst && ((turnP (vc3_1 c f win) (vc3_0 c f win)).snd.snd.fst == (turnF (vc3_1 c f win) (vc3_0 c f win)).snd.snd.fst && ((turnP (vc3_1 c f win) (vc3_0 c f win)).snd.snd.snd == (turnF (vc3_1 c f win) (vc3_0 c f win)).snd.snd.snd && true)))
def vc3_3 (c : Cab) (f : Flt) (win : Int) := ((turnP (vc3_1 c f win) (vc3_0 c f win)).snd.fst == (0 : Int) && ((turnP (vc3_1 c f win) (vc3_0 c f win)).snd.snd.fst == (0 : Int) && ((turnP (vc3_1 c f win) (vc3_0 c f win)).snd.snd.snd == (0 : Int) && true)))
def vc3_4 (c : Cab) (f : Flt) (win : Int) := ((bif bif fltS (vc3_1 c f win) (vc3_0 c f win) == fltS (vc3_1 c f win) (vc3_0 c f win) then (turnP (vc3_1 c f win) (vc3_0 c f win)).fst == (turnF (vc3_1 c f win) (vc3_0 c f win)).fst && (vc3_2 c f win) else false then fltS (vc3_1 c f win) (vc3_0 c f win) == fltS (vc3_1 c f win) (vc3_0 c f win) else false) = true → List.length (runP (vc3_1 c f win) (vc3_0 c f win) win) ≤ (1000000 : Nat))
def vc3_5 (c : Cab) (f : Flt) (win : Int) := ((bif bif fltS (vc3_1 c f win) (vc3_0 c f win) == fltS (vc3_1 c f win) (vc3_0 c f win) then (turnP (vc3_1 c f win) (vc3_0 c f win)).fst == (0 : Int) && (vc3_3 c f win) else false then fltS (vc3_1 c f win) (vc3_0 c f win) == fltS (vc3_1 c f win) (vc3_0 c f win) else false) = true → List.length (runP (vc3_1 c f win) (vc3_0 c f win) win) ≤ (1000000 : Nat))
def vc3_6 (c : Cab) (f : Flt) (win : Int) := ((bif bif bif bif fltS (vc3_1 c f win) (vc3_0 c f win) == fltS (vc3_1 c f win) (vc3_0 c f win) then (turnP (vc3_1 c f win) (vc3_0 c f win)).fst == (turnF (vc3_1 c f win) (vc3_0 c f win)).fst && (vc3_2 c f win) else false then fltS (vc3_1 c f win) (vc3_0 c f win) == fltS (vc3_1 c f win) (vc3_0 c f win) else false then decide (runP (vc3_1 c f win) (vc3_0 c f win) win = runR (vc3_1 c f win) (vc3_0 c f win) win) else false then winS (vc3_1 c f win) (vc3_0 c f win) win == firstS [fltS (vc3_1 c f win) (vc3_0 c f win), withinS win (0 : Int) (1000 : Int)] else false) = true → List.length (arrP (vc3_1 c f win) (vc3_0 c f win) win) ≤ (1000000 : Nat))
def vc3_7 (c : Cab) (f : Flt) (win : Int) := ((bif bif bif bif fltS (vc3_1 c f win) (vc3_0 c f win) == fltS (vc3_1 c f win) (vc3_0 c f win) then (turnP (vc3_1 c f win) (vc3_0 c f win)).fst == (0 : Int) && (vc3_3 c f win) else false then fltS (vc3_1 c f win) (vc3_0 c f win) == fltS (vc3_1 c f win) (vc3_0 c f win) else false then decide (runP (vc3_1 c f win) (vc3_0 c f win) win = runR (vc3_1 c f win) (vc3_0 c f win) win) else false then winS (vc3_1 c f win) (vc3_0 c f win) win == firstS [fltS (vc3_1 c f win) (vc3_0 c f win), withinS win (0 : Int) (1000 : Int)] else false) = true → List.length (arrP (vc3_1 c f win) (vc3_0 c f win) win) ≤ (1000000 : Nat))
def vc3_8 (c : Cab) (f : Flt) (win : Int) := ((bif bif bif bif fltS (vc3_1 c f win) (vc3_0 c f win) == fltS (vc3_1 c f win) (vc3_0 c f win) then (turnP (vc3_1 c f win) (vc3_0 c f win)).fst == (turnF (vc3_1 c f win) (vc3_0 c f win)).fst && (vc3_2 c f win) else false then fltS (vc3_1 c f win) (vc3_0 c f win) == fltS (vc3_1 c f win) (vc3_0 c f win) else false then decide (runP (vc3_1 c f win) (vc3_0 c f win) win = []) else false then winS (vc3_1 c f win) (vc3_0 c f win) win == firstS [fltS (vc3_1 c f win) (vc3_0 c f win), withinS win (0 : Int) (1000 : Int)] else false) = true → List.length (arrP (vc3_1 c f win) (vc3_0 c f win) win) ≤ (1000000 : Nat))
def vc3_9 (c : Cab) (f : Flt) (win : Int) := ((bif bif bif bif fltS (vc3_1 c f win) (vc3_0 c f win) == fltS (vc3_1 c f win) (vc3_0 c f win) then (turnP (vc3_1 c f win) (vc3_0 c f win)).fst == (0 : Int) && (vc3_3 c f win) else false then fltS (vc3_1 c f win) (vc3_0 c f win) == fltS (vc3_1 c f win) (vc3_0 c f win) else false then decide (runP (vc3_1 c f win) (vc3_0 c f win) win = []) else false then winS (vc3_1 c f win) (vc3_0 c f win) win == firstS [fltS (vc3_1 c f win) (vc3_0 c f win), withinS win (0 : Int) (1000 : Int)] else false) = true → List.length (arrP (vc3_1 c f win) (vc3_0 c f win) win) ≤ (1000000 : Nat))
def vc3_10 (c : Cab) (f : Flt) (win : Int) := (rcF (vc3_1 c f win) (vc3_0 c f win) (ByteArray.mk (Array.mk [(65 : UInt8)])) win)
def vc3_11 (c : Cab) (f : Flt) (win : Int) := (List.length c.1 ≤ (1000000 : Nat) ∧ List.length c.snd.1 ≤ (1000000 : Nat) ∧ List.length c.1 ≤ (1000000 : Nat) ∧ List.length c.snd.1 ≤ (1000000 : Nat))
def vc3_12 (c : Cab) (f : Flt) (win : Int) := (firstS [fltS (vc3_1 c f win) (vc3_0 c f win), withinS win (0 : Int) (1000 : Int)] == (0 : Int))
theorem vc3 : ∀ (c : Cab) (f : Flt) (win : Int), wpF Tryz.prog G128 (na ()) Tryz.f3 cWaves (c, f, win, ()) = (((bif false then true else !shortS (vc3_1 c f win)) = true → true = true) ∧ ((bif false then true else !shortS (vc3_1 c f win)) = false → (vc3_11 c f win) ∧ (vc3_11 c f win) ∧ (vc3_11 c f win) ∧ (vc3_11 c f win) ∧ (List.length c.1 ≤ (1000000 : Nat) ∧ List.length c.snd.1 ≤ (1000000 : Nat)) ∧ (2 : Nat) ≤ (1000000 : Nat) ∧ ((fltS (vc3_1 c f win) (vc3_0 c f win) == (0 : Int)) = true → fltS (vc3_1 c f win) (vc3_0 c f win) = (0 : Int) ∧ ((vc3_12 c f win) = true → (fltS (vc3_1 c f win) (vc3_0 c f win) = (0 : Int) ∧ ((0 : Int) ≤ win ∧ win ≤ (1000 : Int)) ∧ winS (vc3_1 c f win) (vc3_0 c f win) win = (0 : Int)) ∧ rcE (vc3_1 c f win) (vc3_0 c f win) (ByteArray.mk (Array.mk [(65 : UInt8)])) win = (0 : Int) ∧ (List.length c.1 ≤ (1000000 : Nat) ∧ List.length c.snd.1 ≤ (1000000 : Nat) ∧ List.length c.1 ≤ (1000000 : Nat) ∧ List.length c.snd.1 ≤ (1000000 : Nat) ∧ (vc3_4 c f win) ∧ (vc3_4 c f win) ∧ (vc3_6 c f win) ∧ (vc3_6 c f win) ∧ ((bif bif bif bif bif bif fltS (vc3_1 c f win) (vc3_0 c f win) == fltS (vc3_1 c f win) (vc3_0 c f win) then (turnP (vc3_1 c f win) (vc3_0 c f win)).fst == (turnF (vc3_1 c f win) (vc3_0 c f win)).fst && (vc3_2 c f win) else false then fltS (vc3_1 c f win) (vc3_0 c f win) == fltS (vc3_1 c f win) (vc3_0 c f win) else false then decide (runP (vc3_1 c f win) (vc3_0 c f win) win = runR (vc3_1 c f win) (vc3_0 c f win) win) else false then winS (vc3_1 c f win) (vc3_0 c f win) win == firstS [fltS (vc3_1 c f win) (vc3_0 c f win), withinS win (0 : Int) (1000 : Int)] else false then decide (arrP (vc3_1 c f win) (vc3_0 c f win) win = arrS (vc3_1 c f win) (vc3_0 c f win) win) else false then winS (vc3_1 c f win) (vc3_0 c f win) win == firstS [fltS (vc3_1 c f win) (vc3_0 c f win), withinS win (0 : Int) (1000 : Int)] else false) = true → List.length (vc3_10 c f win) ≤ (1000000 : Nat))) ∧ (bif bif bif bif bif bif bif bif fltS (vc3_1 c f win) (vc3_0 c f win) == fltS (vc3_1 c f win) (vc3_0 c f win) then (turnP (vc3_1 c f win) (vc3_0 c f win)).fst == (turnF (vc3_1 c f win) (vc3_0 c f win)).fst && (vc3_2 c f win) else false then fltS (vc3_1 c f win) (vc3_0 c f win) == fltS (vc3_1 c f win) (vc3_0 c f win) else false then decide (runP (vc3_1 c f win) (vc3_0 c f win) win = runR (vc3_1 c f win) (vc3_0 c f win) win) else false then winS (vc3_1 c f win) (vc3_0 c f win) win == firstS [fltS (vc3_1 c f win) (vc3_0 c f win), withinS win (0 : Int) (1000 : Int)] else false then decide (arrP (vc3_1 c f win) (vc3_0 c f win) win = arrS (vc3_1 c f win) (vc3_0 c f win) win) else false then winS (vc3_1 c f win) (vc3_0 c f win) win == firstS [fltS (vc3_1 c f win) (vc3_0 c f win), withinS win (0 : Int) (1000 : Int)] else false then sameF (vc3_10 c f win) (rcG (arrS (vc3_1 c f win) (vc3_0 c f win) win) (ByteArray.mk (Array.mk [(65 : UInt8)])) f.snd.snd.fst win) else false then rcEE (vc3_1 c f win) (vc3_0 c f win) (ByteArray.mk (Array.mk [(65 : UInt8)])) win == rcGE (arrS (vc3_1 c f win) (vc3_0 c f win) win) (ByteArray.mk (Array.mk [(65 : UInt8)])) f.snd.snd.fst win else false) = true) ∧ ((vc3_12 c f win) = false → (List.length c.1 ≤ (1000000 : Nat) ∧ List.length c.snd.1 ≤ (1000000 : Nat) ∧ List.length c.1 ≤ (1000000 : Nat) ∧ List.length c.snd.1 ≤ (1000000 : Nat) ∧ (vc3_4 c f win) ∧ (vc3_4 c f win) ∧ (vc3_8 c f win) ∧ (vc3_8 c f win) ∧ ((bif bif bif bif bif bif fltS (vc3_1 c f win) (vc3_0 c f win) == fltS (vc3_1 c f win) (vc3_0 c f win) then (turnP (vc3_1 c f win) (vc3_0 c f win)).fst == (turnF (vc3_1 c f win) (vc3_0 c f win)).fst && (vc3_2 c f win) else false then fltS (vc3_1 c f win) (vc3_0 c f win) == fltS (vc3_1 c f win) (vc3_0 c f win) else false then decide (runP (vc3_1 c f win) (vc3_0 c f win) win = []) else false then winS (vc3_1 c f win) (vc3_0 c f win) win == firstS [fltS (vc3_1 c f win) (vc3_0 c f win), withinS win (0 : Int) (1000 : Int)] else false then decide (arrP (vc3_1 c f win) (vc3_0 c f win) win = []) else false then winS (vc3_1 c f win) (vc3_0 c f win) win == firstS [fltS (vc3_1 c f win) (vc3_0 c f win), withinS win (0 : Int) (1000 : Int)] else false) = true → List.length (vc3_10 c f win) ≤ (1000000 : Nat))) ∧ (bif bif bif bif bif bif bif bif fltS (vc3_1 c f win) (vc3_0 c f win) == fltS (vc3_1 c f win) (vc3_0 c f win) then (turnP (vc3_1 c f win) (vc3_0 c f win)).fst == (turnF (vc3_1 c f win) (vc3_0 c f win)).fst && (vc3_2 c f win) else false then fltS (vc3_1 c f win) (vc3_0 c f win) == fltS (vc3_1 c f win) (vc3_0 c f win) else false then decide (runP (vc3_1 c f win) (vc3_0 c f win) win = []) else false then winS (vc3_1 c f win) (vc3_0 c f win) win == firstS [fltS (vc3_1 c f win) (vc3_0 c f win), withinS win (0 : Int) (1000 : Int)] else false then decide (arrP (vc3_1 c f win) (vc3_0 c f win) win = []) else false then winS (vc3_1 c f win) (vc3_0 c f win) win == firstS [fltS (vc3_1 c f win) (vc3_0 c f win), withinS win (0 : Int) (1000 : Int)] else false then sameF (vc3_10 c f win) [] else false then rcEE (vc3_1 c f win) (vc3_0 c f win) (ByteArray.mk (Array.mk [(65 : UInt8)])) win == firstS [fltS (vc3_1 c f win) (vc3_0 c f win), withinS win (0 : Int) (1000 : Int)] else false) = true)) ∧ ((fltS (vc3_1 c f win) (vc3_0 c f win) == (0 : Int)) = false → ((vc3_12 c f win) = true → (fltS (vc3_1 c f win) (vc3_0 c f win) = (0 : Int) ∧ ((0 : Int) ≤ win ∧ win ≤ (1000 : Int)) ∧ winS (vc3_1 c f win) (vc3_0 c f win) win = (0 : Int)) ∧ rcE (vc3_1 c f win) (vc3_0 c f win) (ByteArray.mk (Array.mk [(65 : UInt8)])) win = (0 : Int) ∧ (List.length c.1 ≤ (1000000 : Nat) ∧ List.length c.snd.1 ≤ (1000000 : Nat) ∧ List.length c.1 ≤ (1000000 : Nat) ∧ List.length c.snd.1 ≤ (1000000 : Nat) ∧ (vc3_5 c f win) ∧ (vc3_5 c f win) ∧ (vc3_7 c f win) ∧ (vc3_7 c f win) ∧ ((bif bif bif bif bif bif fltS (vc3_1 c f win) (vc3_0 c f win) == fltS (vc3_1 c f win) (vc3_0 c f win) then (turnP (vc3_1 c f win) (vc3_0 c f win)).fst == (0 : Int) && (vc3_3 c f win) else false then fltS (vc3_1 c f win) (vc3_0 c f win) == fltS (vc3_1 c f win) (vc3_0 c f win) else false then decide (runP (vc3_1 c f win) (vc3_0 c f win) win = runR (vc3_1 c f win) (vc3_0 c f win) win) else false then winS (vc3_1 c f win) (vc3_0 c f win) win == firstS [fltS (vc3_1 c f win) (vc3_0 c f win), withinS win (0 : Int) (1000 : Int)] else false then decide (arrP (vc3_1 c f win) (vc3_0 c f win) win = arrS (vc3_1 c f win) (vc3_0 c f win) win) else false then winS (vc3_1 c f win) (vc3_0 c f win) win == firstS [fltS (vc3_1 c f win) (vc3_0 c f win), withinS win (0 : Int) (1000 : Int)] else false) = true → List.length (vc3_10 c f win) ≤ (1000000 : Nat))) ∧ (bif bif bif bif bif bif bif bif fltS (vc3_1 c f win) (vc3_0 c f win) == fltS (vc3_1 c f win) (vc3_0 c f win) then (turnP (vc3_1 c f win) (vc3_0 c f win)).fst == (0 : Int) && (vc3_3 c f win) else false then fltS (vc3_1 c f win) (vc3_0 c f win) == fltS (vc3_1 c f win) (vc3_0 c f win) else false then decide (runP (vc3_1 c f win) (vc3_0 c f win) win = runR (vc3_1 c f win) (vc3_0 c f win) win) else false then winS (vc3_1 c f win) (vc3_0 c f win) win == firstS [fltS (vc3_1 c f win) (vc3_0 c f win), withinS win (0 : Int) (1000 : Int)] else false then decide (arrP (vc3_1 c f win) (vc3_0 c f win) win = arrS (vc3_1 c f win) (vc3_0 c f win) win) else false then winS (vc3_1 c f win) (vc3_0 c f win) win == firstS [fltS (vc3_1 c f win) (vc3_0 c f win), withinS win (0 : Int) (1000 : Int)] else false then sameF (vc3_10 c f win) (rcG (arrS (vc3_1 c f win) (vc3_0 c f win) win) (ByteArray.mk (Array.mk [(65 : UInt8)])) f.snd.snd.fst win) else false then rcEE (vc3_1 c f win) (vc3_0 c f win) (ByteArray.mk (Array.mk [(65 : UInt8)])) win == rcGE (arrS (vc3_1 c f win) (vc3_0 c f win) win) (ByteArray.mk (Array.mk [(65 : UInt8)])) f.snd.snd.fst win else false) = true) ∧ ((vc3_12 c f win) = false → (List.length c.1 ≤ (1000000 : Nat) ∧ List.length c.snd.1 ≤ (1000000 : Nat) ∧ List.length c.1 ≤ (1000000 : Nat) ∧ List.length c.snd.1 ≤ (1000000 : Nat) ∧ (vc3_5 c f win) ∧ (vc3_5 c f win) ∧ (vc3_9 c f win) ∧ (vc3_9 c f win) ∧ ((bif bif bif bif bif bif fltS (vc3_1 c f win) (vc3_0 c f win) == fltS (vc3_1 c f win) (vc3_0 c f win) then (turnP (vc3_1 c f win) (vc3_0 c f win)).fst == (0 : Int) && (vc3_3 c f win) else false then fltS (vc3_1 c f win) (vc3_0 c f win) == fltS (vc3_1 c f win) (vc3_0 c f win) else false then decide (runP (vc3_1 c f win) (vc3_0 c f win) win = []) else false then winS (vc3_1 c f win) (vc3_0 c f win) win == firstS [fltS (vc3_1 c f win) (vc3_0 c f win), withinS win (0 : Int) (1000 : Int)] else false then decide (arrP (vc3_1 c f win) (vc3_0 c f win) win = []) else false then winS (vc3_1 c f win) (vc3_0 c f win) win == firstS [fltS (vc3_1 c f win) (vc3_0 c f win), withinS win (0 : Int) (1000 : Int)] else false) = true → List.length (vc3_10 c f win) ≤ (1000000 : Nat))) ∧ (bif bif bif bif bif bif bif bif fltS (vc3_1 c f win) (vc3_0 c f win) == fltS (vc3_1 c f win) (vc3_0 c f win) then (turnP (vc3_1 c f win) (vc3_0 c f win)).fst == (0 : Int) && (vc3_3 c f win) else false then fltS (vc3_1 c f win) (vc3_0 c f win) == fltS (vc3_1 c f win) (vc3_0 c f win) else false then decide (runP (vc3_1 c f win) (vc3_0 c f win) win = []) else false then winS (vc3_1 c f win) (vc3_0 c f win) win == firstS [fltS (vc3_1 c f win) (vc3_0 c f win), withinS win (0 : Int) (1000 : Int)] else false then decide (arrP (vc3_1 c f win) (vc3_0 c f win) win = []) else false then winS (vc3_1 c f win) (vc3_0 c f win) win == firstS [fltS (vc3_1 c f win) (vc3_0 c f win), withinS win (0 : Int) (1000 : Int)] else false then sameF (vc3_10 c f win) [] else false then rcEE (vc3_1 c f win) (vc3_0 c f win) (ByteArray.mk (Array.mk [(65 : UInt8)])) win == firstS [fltS (vc3_1 c f win) (vc3_0 c f win), withinS win (0 : Int) (1000 : Int)] else false) = true)))) := by
 intros
 kernel_rfl
theorem wp3 (c : Cab) (f : Flt) (win : Int) : wpF Tryz.prog G128 (na ()) Tryz.f3 cWaves (c, f, win, ()) := by
 refine (vc3 c f win).mpr ?_
 delta vc3_0 vc3_1 vc3_2 vc3_3 vc3_4 vc3_5 vc3_6 vc3_7 vc3_8 vc3_9 vc3_10 vc3_11 vc3_12
 obtain ⟨s, j, e0, e1⟩ := c
 obtain ⟨f0, f1, f2, f3⟩ := f
 dsimp only
 refine ⟨fun _ => rfl, fun h => ?_⟩
 have hs := short_len h
 have h1 : s.length ≤ 1000000 := Nat.le_trans hs.1 (by decide)
 have h2 : j.length ≤ 1000000 := Nat.le_trans hs.2 (by decide)
 clear h hs
 refine ⟨⟨h1, h2, h1, h2⟩, ⟨h1, h2, h1, h2⟩, ⟨h1, h2, h1, h2⟩, ⟨h1, h2, h1, h2⟩, ⟨h1, h2⟩, by decide, ?_⟩
 generalize ((s, j, e0, e1) : Cab) = c
 have ef : f2 = ((f0, f1, f2, f3) : Flt).2.2.1 := rfl
 generalize ((f0, f1, f2, f3) : Flt) = f at ef ⊢
 have hA : endS bA = 0 := by show endS sA = 0; simp [endS]
 have eR : rcE c f bA win = winS c f win := by unfold rcE winS; simp [firstS, hA]
 have eW : firstS [fltS c f, withinS win 0 1000] = winS c f win := rfl
 rw [eW, eR]
 by_cases hf : fltS c f = 0
 ·have eT : turnP c f = turnF c f := by unfold turnP; rw [if_pos hf]
  have hv := (fltS_V hf).2
  by_cases hw : winS c f win = 0
  ·have eP : runP c f win = runR c f win := by unfold runP; rw [if_pos hw]; rfl
   have eA : arrP c f win = arrS c f win := by unfold arrP; rw [if_pos hw]
   have eF : rcF c f bA win = rcG (arrS c f win) bA f.2.2.1 win := by unfold rcF; rw [if_pos (eR.trans hw)]
   have eE : rcEE c f bA win = rcGE (arrS c f win) bA f.2.2.1 win := by unfold rcEE; rw [if_pos (eR.trans hw)]
   have l1 : (runR c f win).length ≤ 1000000 := Nat.le_trans (runR_H hv).2 (by decide)
   have l2 : (arrS c f win).length ≤ 1000000 := Nat.le_trans (arrS_len hv) (by decide)
   have bw : 0 ≤ win ∧ win ≤ 1000 := (rcE_zero (e := bA) (eR.trans hw)).2.2
   have l3 := rcG_len (arrS c f win) bA f.2.2.1 bw
   have l4 := rcG_self (arrS c f win) bA f.2.2.1 win
   simp [hf, hw, eT, eP, eA, eF, eE, l1, l2, l3, bw, h1, h2]
   subst ef
   exact ⟨l4, rfl⟩
  ·have eP : runP c f win = [] := by unfold runP; rw [if_neg hw]
   have eA : arrP c f win = [] := by unfold arrP; rw [if_neg hw]
   have hr : ¬ rcE c f bA win = 0 := by rw [eR]; exact hw
   have eF : rcF c f bA win = [] := by unfold rcF; rw [if_neg hr]
   have eE : rcEE c f bA win = winS c f win := by unfold rcEE; rw [if_neg hr, eR]
   simp [hf, hw, eT, eP, eA, eF, eE, h1, h2, sameF]
 ·have eT : turnP c f = (0, 0, 0, 0) := by unfold turnP; rw [if_neg hf]
  have eWf : winS c f win = fltS c f := by unfold winS; simp [firstS, hf]
  have hw : ¬ winS c f win = 0 := by rw [eWf]; exact hf
  have eP : runP c f win = [] := by unfold runP; rw [if_neg hw]
  have eA : arrP c f win = [] := by unfold arrP; rw [if_neg hw]
  have hr : ¬ rcE c f bA win = 0 := by rw [eR]; exact hw
  have eF : rcF c f bA win = [] := by unfold rcF; rw [if_neg hr]
  have eE : rcEE c f bA win = winS c f win := by unfold rcEE; rw [if_neg hr, eR]
  simp [hf, hw, eT, eP, eA, eF, eE, eWf, h1, h2, sameF]
theorem ok3 : Ok Tryz.prog 3 cWaves := ok_of_wp mixed g128 (by kernel_rfl) (by kernel_rfl) na fun xx => wp3 xx.1 xx.2.1 xx.2.2.1
abbrev G129 : Gam := (3, cWaves) :: G128
theorem g129 : GamOk Tryz.prog G129 := .cons ok3 g128
end Go.Proofs.YtcledkhhecdppaaGreatDoor
