/- The law walked: part of the proof. -/
import Derived.Test.YtacaadhlobbemaaGreatDoorFC
set_option linter.unusedSimpArgs false
set_option linter.unusedVariables false
set_option maxRecDepth 20000
namespace Go.Proofs.YtacaadhlobbemaaGreatDoor
open Go.Sx
set_option maxHeartbeats 20000000
def cFlowCrossings : Con := { args := [aLL 22 132, aI], ress := [Bo], owns := [], pre := fun (l, _, _) => [l.length ≤ 9223372036854775807], spec := fun _ => (true, ()) }
theorem vc4 : ∀ (l : List (List (Int × Int))) (load : Int), wpF Tryz.prog G140 (na ()) Tryz.f4 cFlowCrossings (l, load, ()) = (List.length l ≤ (9223372036854775807 : Nat) → List.length l ≤ (9223372036854775807 : Nat) ∧ ((!shortL l) = true → true = true) ∧ ((!shortL l) = false → (List.length l ≤ (1000000 : Nat) ∧ (∀ (x : List (Int × Int)), x ∈ l → List.length x ≤ (1000000 : Nat)) ∧ List.length l ≤ (1000000 : Nat)) ∧ (List.length l ≤ (1000000 : Nat) ∧ (∀ (x : List (Int × Int)), x ∈ l → List.length x ≤ (1000000 : Nat)) ∧ List.length l ≤ (1000000 : Nat)) ∧ (List.length l ≤ (1000000 : Nat) ∧ (2 : Nat) ≤ (1000000 : Nat)) ∧ ((firstS [linesS l, withinS load (-3000 : Int) (3000 : Int)] == (0 : Int)) = true → (linesS l = (0 : Int) ∧ (-3000 : Int) ≤ load ∧ load ≤ (3000 : Int)) ∧ (Option.isSome (rCrossS l load) = true → (List.length l ≤ (3 : Nat) ∧ ∀ (x : List (Int × Int)), x ∈ l → lineS x = (0 : Int) ∧ shOk x ((Option.getD (rCrossS l load) ((0 : Int), (0 : Int))).fst, (Option.getD (rCrossS l load) ((0 : Int), (0 : Int))).snd)) ∧ (List.length l ≤ (1000000 : Nat) ∧ (∀ (x : List (Int × Int)), x ∈ l → List.length x ≤ (1000000 : Nat)) ∧ List.length l ≤ (1000000 : Nat) ∧ List.length l ≤ (1000000 : Nat) ∧ ((bif bif linesS l == linesS l then (xCrossS l load).fst.fst == (Option.getD (rCrossS l load) ((0 : Int), (0 : Int))).fst && ((xCrossS l load).fst.snd == (Option.getD (rCrossS l load) ((0 : Int), (0 : Int))).snd && true) else false then (xCrossS l load).snd == firstS [linesS l, withinS load (-3000 : Int) (3000 : Int)] else false) = true → List.length (xShareS l load).1 ≤ (1000000 : Nat))) ∧ (bif bif bif bif bif linesS l == linesS l then (xCrossS l load).fst.fst == (Option.getD (rCrossS l load) ((0 : Int), (0 : Int))).fst && ((xCrossS l load).fst.snd == (Option.getD (rCrossS l load) ((0 : Int), (0 : Int))).snd && true) else false then (xCrossS l load).snd == firstS [linesS l, withinS load (-3000 : Int) (3000 : Int)] else false then decide ((xShareS l load).1 = List.map (fun (x : List (Int × Int)) => rShareS x ((Option.getD (rCrossS l load) ((0 : Int), (0 : Int))).fst, (Option.getD (rCrossS l load) ((0 : Int), (0 : Int))).snd)) l) else false then (xShareS l load).snd == firstS [linesS l, withinS load (-3000 : Int) (3000 : Int)] else false then true else false) = true) ∧ (Option.isSome (rCrossS l load) = false → (List.length l ≤ (1000000 : Nat) ∧ (∀ (x : List (Int × Int)), x ∈ l → List.length x ≤ (1000000 : Nat)) ∧ List.length l ≤ (1000000 : Nat) ∧ List.length l ≤ (1000000 : Nat) ∧ ((bif bif linesS l == linesS l then (xCrossS l load).fst.fst == (0 : Int) && ((xCrossS l load).fst.snd == (0 : Int) && true) else false then (xCrossS l load).snd == (7 : Int) else false) = true → List.length (xShareS l load).1 ≤ (1000000 : Nat))) ∧ (bif bif bif bif bif linesS l == linesS l then (xCrossS l load).fst.fst == (0 : Int) && ((xCrossS l load).fst.snd == (0 : Int) && true) else false then (xCrossS l load).snd == (7 : Int) else false then decide ((xShareS l load).1 = []) else false then (xShareS l load).snd == (7 : Int) else false then true else false) = true)) ∧ ((firstS [linesS l, withinS load (-3000 : Int) (3000 : Int)] == (0 : Int)) = false → (List.length l ≤ (1000000 : Nat) ∧ (∀ (x : List (Int × Int)), x ∈ l → List.length x ≤ (1000000 : Nat)) ∧ List.length l ≤ (1000000 : Nat) ∧ List.length l ≤ (1000000 : Nat) ∧ ((bif bif linesS l == linesS l then (xCrossS l load).fst.fst == (0 : Int) && ((xCrossS l load).fst.snd == (0 : Int) && true) else false then (xCrossS l load).snd == firstS [linesS l, withinS load (-3000 : Int) (3000 : Int)] else false) = true → List.length (xShareS l load).1 ≤ (1000000 : Nat))) ∧ (bif bif bif bif bif linesS l == linesS l then (xCrossS l load).fst.fst == (0 : Int) && ((xCrossS l load).fst.snd == (0 : Int) && true) else false then (xCrossS l load).snd == firstS [linesS l, withinS load (-3000 : Int) (3000 : Int)] else false then decide ((xShareS l load).1 = []) else false then (xShareS l load).snd == firstS [linesS l, withinS load (-3000 : Int) (3000 : Int)] else false then true else false) = true))) := by
  intros
  kernel_rfl
theorem wp4 (l : List (List (Int × Int))) (load : Int) : wpF Tryz.prog G140 (na ()) Tryz.f4 cFlowCrossings (l, load, ()) := by
  refine (vc4 l load).mpr ?_
  intro hb
  refine ⟨hb, fun _ => rfl, fun h => ?_⟩
  have hs : (∀ x ∈ l, x.length ≤ 10) ∧ l.length ≤ 5 := by
    cases hs : shortL l with
    | false => rw [hs] at h; simp at h
    | true =>
      unfold shortL at hs
      simp only [Bool.and_eq_true, List.all_eq_true, decide_eq_true_eq] at hs
      exact hs
  clear h
  have b1 : l.length ≤ 1000000 := by omega
  have b2 : ∀ x : List (Int × Int), x ∈ l → x.length ≤ 1000000 := fun x hx => by have := hs.1 x hx; omega
  have hE : firstS [linesS l, withinS load (-3000) 3000] = loadE l load := rfl
  rw [hE]
  refine ⟨⟨b1, b2, b1⟩, ⟨b1, b2, b1⟩, ⟨b1, by decide⟩, fun h0 => ?_, fun h0 => ?_⟩
  · have h0 : loadE l load = 0 := eq_of_beq h0
    obtain ⟨hl, hL⟩ := loadE_zero h0
    have hsame := crossS_same (load := load) hl
    obtain ⟨l1, l3, l2, l4, l5, l6⟩ := lines_ok hl
    refine ⟨⟨hl, hL⟩, ?_⟩
    cases hc : crossS l load with
    | none =>
      rw [hc] at hsame
      have e1 : rCrossS l load = none := hsame
      have e2 : xCrossS l load = ((0, 0), 7) := by unfold xCrossS; rw [if_neg (by simpa using h0), hc]
      have e3 : xShareS l load = ([], 7) := by unfold xShareS; rw [if_neg (by simpa using h0), hc]
      rw [e1, e2, e3]
      exact ⟨fun h => by simp at h, fun _ => ⟨⟨b1, b2, b1, b1, fun _ => by simp⟩, by simp⟩⟩
    | some q =>
      obtain ⟨u, p⟩ := q
      rw [hc] at hsame
      have hf := found_of hl hL hc
      have hp := crossS_part hl hc
      obtain ⟨⟨c1, c2⟩, _⟩ := found_at hl hf
      have e1 : rCrossS l load = some (plusS (u, 1) p) := hsame
      have e2 : xCrossS l load = (plusS (u, 1) p, 0) := by unfold xCrossS; rw [if_neg (by simpa using h0), hc]
      have e3 : xShareS l load = (l.map fun x => rShareS x (plusS (u, 1) p), 0) := by
        unfold xShareS
        rw [if_neg (by simpa using h0), hc]
        dsimp only
        congr 1
        exact List.map_congr_left fun x hx => share_same (hf.part x hx) hf.zero
      have hsh : ∀ x ∈ l, lineS x = 0 ∧ shOk x ((plusS (u, 1) p).1, (plusS (u, 1) p).2) := fun x hx => by
        have hi := hf.in1 x hx
        refine ⟨hi.1, ⟨c1, by show (plusS (u, 1) p).2 ≤ 6000000000; omega⟩, ?_⟩
        show (x.getD 0 (0, 0)).1 * (plusS (u, 1) p).2 ≤ (plusS (u, 1) p).1 ∧ (plusS (u, 1) p).1 ≤ (x.getD (x.length - 1) (0, 0)).1 * (plusS (u, 1) p).2
        have hp0 := hf.p0
        have hp1 := hf.p1
        obtain ⟨v1, v2, v3⟩ := cross_val (u := u) (p := p) (by omega)
        dsimp only at v2 v3
        generalize plusS (u, 1) p = c at *
        have k1 : (c.1 - u * c.2) * p.2 = p.1 * c.2 := by grind
        have r0 : 0 ≤ c.1 - u * c.2 := by
          rcases Int.lt_or_le (c.1 - u * c.2) 0 with hlt | hge
          · have := Int.mul_neg_of_neg_of_pos hlt v2
            have := Int.mul_nonneg hp0 (Int.le_of_lt c1)
            omega
          · exact hge
        have m1 := Int.mul_le_mul_of_nonneg_right hi.2.1 (Int.le_of_lt c1)
        refine ⟨by omega, ?_⟩
        by_cases hz : p.1 = 0
        · have := hf.zero hz
          subst this
          simp only [Int.mul_one, Int.zero_mul] at k1
          have m2 := Int.mul_le_mul_of_nonneg_right hi.2.2 (Int.le_of_lt c1)
          omega
        · have hi2 := (hf.in2 hz).2 x hx
          have m2 := Int.mul_le_mul_of_nonneg_right hi2.2.2 (Int.le_of_lt c1)
          have k2 : ((u + 1) * c.2 - c.1) * p.2 = (p.2 - p.1) * c.2 := by grind
          have := (pos_iff v2 c1 k2).2 (by omega)
          omega
      rw [e1, e2, e3]
      refine ⟨fun _ => ⟨⟨l3, hsh⟩, ⟨b1, b2, b1, b1, fun _ => by simp only [List.length_map]; exact b1⟩, ?_⟩, fun h => by simp at h⟩
      simp [h0]
  · have h0 : loadE l load ≠ 0 := ne_of_beq_false h0
    have e2 : xCrossS l load = ((0, 0), loadE l load) := by unfold xCrossS; rw [if_pos h0]
    have e3 : xShareS l load = ([], loadE l load) := by unfold xShareS; rw [if_pos h0]
    rw [e2, e3]
    exact ⟨⟨b1, b2, b1, b1, fun _ => by simp⟩, by simp⟩
theorem ok4 : Ok Tryz.prog 4 cFlowCrossings := ok_of_wp mixed g140 (by kernel_rfl) (by kernel_rfl) na fun xx => wp4 xx.1 xx.2.1
abbrev G141 : Gam := (4, cFlowCrossings) :: G140
theorem g141 : GamOk Tryz.prog G141 := .cons ok4 g140
end Go.Proofs.YtacaadhlobbemaaGreatDoor
