/- The law walked: part of the proof. -/
import Derived.Test.YtcledkhhecdppaaGreatDoorFB
set_option linter.unusedSimpArgs false
set_option linter.unusedVariables false
set_option maxRecDepth 20000
namespace Go.Proofs.YtcledkhhecdppaaGreatDoor
open Go.Sx
set_option maxHeartbeats 20000000
theorem parseC_err (f : ByteArray → Int × Bool) : ∀ (l : List (List UInt8)) (k : Nat) (c : Cab), (parseC f l k c).2.2 = 0 ∨ (parseC f l k c).1 = zeroC
 | [], k, c => by
  show (finC c k).2.2 = 0 ∨ (finC c k).1 = zeroC
  unfold finC
  split
  ·exact .inr rfl
  split
  ·exact .inl rfl
  ·exact .inr rfl
 | [w], k, c => by
  show (if w = [] then finC c k else (zeroC, (k : Int), (25 : Int))).2.2 = 0 ∨ (if w = [] then finC c k else (zeroC, (k : Int), (25 : Int))).1 = zeroC
  split
  ·exact parseC_err f [] k c
  ·exact .inr rfl
 | w :: a :: r, k, c => by
  rw [parseC_cons f (w := w) (r := a :: r) (by simp)]
  split
  ·exact parseC_err f (a :: r) _ _
  ·exact .inr rfl
theorem parse_len (s : ByteArray) : (parseT s).1.1.length ≤ 1000000 ∧ (parseT s).1.2.1.length ≤ 1000000 := by
 have h : (parseT s).2.2 = 0 ∨ (parseT s).1 = zeroC := by
  unfold parseT
  split
  ·exact .inr rfl
  ·exact parseC_err _ _ _ _
 rcases h with h | h
 ·have hv := cabS_V (parse_back h).1
  have := hv.2.1
  have := hv.2.2.2.1
  omega
 ·rw [h]
  exact ⟨by decide, by decide⟩
def cBack : Con := { args := [aCR, taS], ress := [Bo], owns := [], pre := fun _ => [], spec := fun _ => (true, ()) }
theorem less_end {a : Int} {n : Nat} (h1 : 1 ≤ n) (h2 : n ≤ 6) : ((((25 : Int) == 25) = true → -9223372036854775808 ≤ 2 * (n : Int) ∧ 2 * (n : Int) ≤ 9223372036854775807) ∧ (((25 : Int) == 25) = true → -9223372036854775808 ≤ 2 * (n : Int) - 1 ∧ 2 * (n : Int) - 1 ≤ 9223372036854775807)) ∧ (bif ((25 : Int) == 25) then (((2 * n : Nat) : Int) - 1 == 2 * (n : Int) - 1) else false) = true := by
 refine ⟨⟨fun _ => by omega, fun _ => by omega⟩, ?_⟩
 show ((((2 * n : Nat) : Int) - 1 == 2 * (n : Int) - 1)) = true
 rw [beq_iff_eq]; omega
def vc15_0 (c : Cab) (s : ByteArray) := (if cabS (c.1, c.2.1, c.2.2.1, c.2.2.2) = (0 : Int) then printS (c.1, c.2.1, c.2.2.1, c.2.2.2) else ByteArray.mk (Array.mk []))
def vc15_1 (c : Cab) (s : ByteArray) := (bif bif bif cabS (c.1, c.2.1, c.2.2.1, c.2.2.2) != (0 : Int) then true else (parseT (vc15_0 c s)).2.2 != (0 : Int) then true else (parseT (vc15_0 c s)).2.1 != (0 : Int) then true else !decide (((parseT (vc15_0 c s)).1.1, (parseT (vc15_0 c s)).1.2.1, (parseT (vc15_0 c s)).1.2.2.1, (parseT (vc15_0 c s)).1.2.2.2) = (c.1, c.2.1, c.2.2.1, c.2.2.2)))
def vc15_2 (c : Cab) (s : ByteArray) := (parseT (ByteArray.extract (vc15_0 c s) (0 : Nat) (Int.toNat ((↑(ByteArray.size (vc15_0 c s)) : Int) - (1 : Int)))))
def vc15_3 (c : Cab) (s : ByteArray) := (bif bif cabS (c.1, c.2.1, c.2.2.1, c.2.2.2) != (0 : Int) then true else (parseT (vc15_0 c s)).2.2 != (0 : Int) then true else (parseT (vc15_0 c s)).2.1 != (0 : Int))
def vc15_4 (c : Cab) (s : ByteArray) := (bif bif bif bif cabS (c.1, c.2.1, c.2.2.1, c.2.2.2) != (0 : Int) then true else (parseT (vc15_0 c s)).2.2 != (0 : Int) then true else (parseT (vc15_0 c s)).2.1 != (0 : Int) then true else !decide (((parseT (vc15_0 c s)).1.1, (parseT (vc15_0 c s)).1.2.1, (parseT (vc15_0 c s)).1.2.2.1, (parseT (vc15_0 c s)).1.2.2.2) = (c.1, c.2.1, c.2.2.1, c.2.2.2)) then true else (↑(List.length (splitF (vc15_0 c s) (10 : Int))) : Int) != (2 : Int) * (↑(List.length c.1) : Int) + (1 : Int))
def vc15_5 (c : Cab) (s : ByteArray) := (bif cabS ((parseT s).1.1, (parseT s).1.2.1, (parseT s).1.2.2.1, (parseT s).1.2.2.2) != (0 : Int) then true else !ByteArray.toList (if cabS ((parseT s).1.1, (parseT s).1.2.1, (parseT s).1.2.2.1, (parseT s).1.2.2.2) = (0 : Int) then printS ((parseT s).1.1, (parseT s).1.2.1, (parseT s).1.2.2.1, (parseT s).1.2.2.2) else ByteArray.mk (Array.mk [])) == ByteArray.toList s)
def vc15_6 (c : Cab) (s : ByteArray) := ((((vc15_2 c s).2.2 == (25 : Int)) = true → (-9223372036854775808 : Int) ≤ (2 : Int) * (↑(List.length c.1) : Int) ∧ (2 : Int) * (↑(List.length c.1) : Int) ≤ (9223372036854775807 : Int)) ∧ (((vc15_2 c s).2.2 == (25 : Int)) = true → (-9223372036854775808 : Int) ≤ (2 : Int) * (↑(List.length c.1) : Int) - (1 : Int) ∧ (2 : Int) * (↑(List.length c.1) : Int) - (1 : Int) ≤ (9223372036854775807 : Int)))
def vc15_7 (c : Cab) (s : ByteArray) := (((-9223372036854775808 : Int) ≤ (↑(ByteArray.size (vc15_0 c s)) : Int) - (1 : Int) ∧ (↑(ByteArray.size (vc15_0 c s)) : Int) - (1 : Int) ≤ (9223372036854775807 : Int)) ∧ (0 : Int) ≤ (0 : Int) ∧ (0 : Int) ≤ (↑(ByteArray.size (vc15_0 c s)) : Int) - (1 : Int) ∧ (↑(ByteArray.size (vc15_0 c s)) : Int) - (1 : Int) ≤ (↑(ByteArray.size (vc15_0 c s)) : Int))
def vc15_8 (c : Cab) (s : ByteArray) := (bif bif bif false then true else !shortS (c.1, c.2.1, c.2.2.1, c.2.2.2) then true else cabS (c.1, c.2.1, c.2.2.1, c.2.2.2) != (0 : Int) then true else decide ((300 : Int) < (↑(ByteArray.size s) : Int)))
theorem vc15 : ∀ (c : Cab) (s : ByteArray), wpF Tryz.prog G146 (na ()) Tryz.f15 cBack (c, s, ()) = ((((bif false then true else !shortS (c.1, c.2.1, c.2.2.1, c.2.2.2)) = false → List.length c.1 ≤ 1000000) ∧ ((bif false then true else !shortS (c.1, c.2.1, c.2.2.1, c.2.2.2)) = false → List.length c.2.1 ≤ 1000000)) ∧ ((vc15_8 c s) = true → true = true) ∧ ((vc15_8 c s) = false → (List.length c.1 ≤ 1000000 ∧ List.length c.2.1 ≤ 1000000 ∧ List.length c.1 ≤ 1000000 ∧ List.length c.2.1 ≤ 1000000) ∧ (((vc15_3 c s) = false → List.length (parseT (vc15_0 c s)).1.1 ≤ 1000000) ∧ ((vc15_3 c s) = false → List.length (parseT (vc15_0 c s)).1.2.1 ≤ 1000000) ∧ ((vc15_3 c s) = false → List.length (parseT (vc15_0 c s)).1.1 ≤ 1000000) ∧ ((vc15_3 c s) = false → List.length (parseT (vc15_0 c s)).1.2.1 ≤ 1000000) ∧ ((vc15_1 c s) = false → ByteArray.size (vc15_0 c s) ≤ 1000000) ∧ ((vc15_1 c s) = false → (0 : Int) ≤ 10) ∧ ((vc15_1 c s) = false → (10 : Int) < 256) ∧ ((vc15_1 c s) = false → (-9223372036854775808 : Int) ≤ 2 * (↑(List.length c.1) : Int) ∧ 2 * (↑(List.length c.1) : Int) ≤ 9223372036854775807) ∧ ((vc15_1 c s) = false → (-9223372036854775808 : Int) ≤ 2 * (↑(List.length c.1) : Int) + 1 ∧ 2 * (↑(List.length c.1) : Int) + (1 : Int) ≤ 9223372036854775807)) ∧ ((vc15_4 c s) = true → false = true) ∧ ((vc15_4 c s) = false → (((parseT s).2.2 == 0) = true → (List.length (parseT s).1.1 ≤ 1000000 ∧ List.length (parseT s).1.2.1 ≤ 1000000) ∧ ((vc15_5 c s) = true → false = true) ∧ ((vc15_5 c s) = false → (vc15_7 c s) ∧ (vc15_6 c s) ∧ (bif (vc15_2 c s).2.2 == 25 then (vc15_2 c s).2.1 == 2 * (↑(List.length c.1) : Int) - 1 else false) = true)) ∧ (((parseT s).2.2 == 0) = false → (vc15_7 c s) ∧ (vc15_6 c s) ∧ (bif (vc15_2 c s).2.2 == 25 then (vc15_2 c s).2.1 == 2 * (↑(List.length c.1) : Int) - 1 else false) = true)))) := by
 intros
 kernel_rfl
theorem wp15 (c : Cab) (s : ByteArray) : wpF Tryz.prog G146 (na ()) Tryz.f15 cBack (c, s, ()) := by
 refine (vc15 c s).mpr ?_
 delta vc15_0 vc15_1 vc15_2 vc15_3 vc15_4 vc15_5 vc15_6 vc15_7 vc15_8
 rcases c with ⟨S, J, p, q⟩
 dsimp only
 have sl : (bif false then true else !shortS (S, J, p, q)) = false → S.length ≤ 7 ∧ J.length ≤ 8 := fun h => short_len (c := (S, J, p, q)) h
 refine ⟨⟨fun h => by have := sl h; omega, fun h => by have := sl h; omega⟩, fun _ => rfl, fun h => ?_⟩
 have h1 := bnT.1 h
 have h2 := bnT.1 h1.1
 obtain ⟨a1, a2⟩ := sl h2.1
 have hc : cabS (S, J, p, q) = 0 := bne_eq_false_iff_eq.1 h2.2
 have hs : ¬ (300 : Int) < s.size := of_decide_eq_false h1.2
 have hv := cabS_V hc
 have hv1 : 0 < S.length := hv.1
 have hv2 : S.length ≤ 6 := hv.2.1
 have hp : printS (S, J, p, q) = bs (outP (S, J, p, q) (2 * S.length)) := printS_eq (c := (S, J, p, q)) hv.1
 have hpp : parseT (bs (outP (S, J, p, q) (2 * S.length))) = ((S, J, p, q), 0, 0) := parse_print hc
 have hle : parseT ((bs (outP (S, J, p, q) (2 * S.length))).extract 0 ((bs (outP (S, J, p, q) (2 * S.length))).size - 1)) = ((zeroC, ((2 * S.length : Nat) : Int) - 1, 25) : Cab × Int × Int) := parse_less hc
 have hsz : (bs (outP (S, J, p, q) (2 * S.length))).size ≤ 53 * (2 * S.length) := by rw [bs_size]; exact outP_len hv _
 have hsz1 : 1 ≤ (bs (outP (S, J, p, q) (2 * S.length))).size := by
  rw [bs_size, show 2 * S.length = (2 * S.length - 1) + 1 by omega, outP_succ]
  simp only [List.length_append, List.length_cons, List.length_nil]; omega
 have hsp : (splitF (bs (outP (S, J, p, q) (2 * S.length))) 10).length = 2 * S.length + 1 := by
  rw [splitF_10, List.length_map]
  have e : (bs (outP (S, J, p, q) (2 * S.length))).data.toList = outP (S, J, p, q) (2 * S.length) ++ [] := by simp [bs]
  rw [e, split_out]
  simp [splB]
 rw [if_pos hc, hp, hpp]
 generalize bs (outP (S, J, p, q) (2 * S.length)) = X at *
 have et : ((X.size : Int) - 1).toNat = X.size - 1 := by omega
 rw [et, hle, hsp]
 dsimp only
 have hle2 := less_end (a := 0) hv1 hv2
 have hb : ((-9223372036854775808 ≤ (X.size : Int) - 1 ∧ (X.size : Int) - 1 ≤ 9223372036854775807) ∧ (0 : Int) ≤ 0 ∧ (0 : Int) ≤ (X.size : Int) - 1 ∧ (X.size : Int) - 1 ≤ (X.size : Int)) := ⟨⟨by omega, by omega⟩, by omega, by omega, by omega⟩
 refine ⟨⟨by omega, by omega, by omega, by omega⟩, ⟨fun _ => by omega, fun _ => by omega, fun _ => by omega, fun _ => by omega, fun _ => by omega, fun _ => by omega, fun _ => by omega, fun _ => by omega, fun _ => by omega⟩, fun hh => ?_, fun _ => ⟨fun he => ?_, fun _ => ⟨hb, hle2⟩⟩⟩
 ·exfalso
  have e : (((2 * S.length + 1 : Nat) : Int) != 2 * (S.length : Int) + 1) = false := by
   rw [bne_eq_false_iff_eq]; omega
  rw [e] at hh
  simp at hh
  exact hh hc
 ·have he' : (parseT s).2.2 = 0 := eqz.1 he
  obtain ⟨b1, b2⟩ := parse_back he'
  obtain ⟨l1, l2⟩ := parse_len s
  revert b1 b2 l1 l2
  rcases parseT s with ⟨⟨S2, J2, p2, q2⟩, n2, e2⟩
  dsimp only
  intro b1 b2 l1 l2
  have hv' := cabS_V b1
  have hp2 : printS (S2, J2, p2, q2) = bs (outP (S2, J2, p2, q2) (2 * S2.length)) := printS_eq (c := (S2, J2, p2, q2)) hv'.1
  rw [if_pos b1, hp2, b2]
  refine ⟨⟨l1, l2⟩, fun hh => ?_, fun _ => ⟨hb, hle2⟩⟩
  exfalso
  rw [b1] at hh
  simp at hh
theorem ok15 : Ok Tryz.prog 15 cBack := ok_of_wp mixed g146 (by kernel_rfl) (by kernel_rfl) na fun xx => wp15 xx.1 xx.2.1
end Go.Proofs.YtcledkhhecdppaaGreatDoor
