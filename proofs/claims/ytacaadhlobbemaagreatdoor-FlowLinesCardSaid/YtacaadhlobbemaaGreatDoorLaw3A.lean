/- The law walked: part of the proof. -/
import Derived.Test.YtacaadhlobbemaaGreatDoorFC
set_option linter.unusedSimpArgs false
set_option linter.unusedVariables false
set_option maxRecDepth 20000
namespace Go.Proofs.YtacaadhlobbemaaGreatDoor
open Go.Sx
set_option maxHeartbeats 20000000
def cFlowLines : Con := { args := [aL 132, aI, aI], ress := [Bo], owns := [], pre := fun (l, _, _, _) => [l.length ≤ 9223372036854775807], spec := fun _ => (true, ()) }
theorem vc3 : ∀ (l : List (Int × Int)) (v b : Int), wpF Tryz.prog G133 (na ()) Tryz.f3 cFlowLines (l, v, b, ()) = (List.length l ≤ (9223372036854775807 : Nat) → (decide ((10 : Int) < (↑(List.length l) : Int)) = true → true = true) ∧ (decide ((10 : Int) < (↑(List.length l) : Int)) = false → List.length l ≤ (1000000 : Nat) ∧ List.length l ≤ (1000000 : Nat) ∧ ((checkAtS l v == (0 : Int)) = true → checkAtS l v = (0 : Int) ∧ (((-9200000000000000000 : Int) ≤ (rAtS l v).fst ∧ (rAtS l v).fst ≤ (9200000000000000000 : Int)) ∧ (0 : Int) < (rAtS l v).snd ∧ (rAtS l v).snd ≤ (9200000000000000000 : Int)) ∧ (List.length l ≤ (1000000 : Nat) ∧ ((bif bif lineS l == lineS l then (xAtS l v).fst.fst == (lowestS (rAtS l v).fst (rAtS l v).snd).fst && ((xAtS l v).fst.snd == (lowestS (rAtS l v).fst (rAtS l v).snd).snd && true) else false then (xAtS l v).snd == checkAtS l v else false) = true → List.length (movedF l b).1 ≤ (1000000 : Nat)) ∧ ((bif bif lineS l == lineS l then (xAtS l v).fst.fst == (lowestS (rAtS l v).fst (rAtS l v).snd).fst && ((xAtS l v).fst.snd == (lowestS (rAtS l v).fst (rAtS l v).snd).snd && true) else false then (xAtS l v).snd == checkAtS l v else false) = true → List.length (movedF l b).1 ≤ (1000000 : Nat))) ∧ (bif bif bif bif bif lineS l == lineS l then (xAtS l v).fst.fst == (lowestS (rAtS l v).fst (rAtS l v).snd).fst && ((xAtS l v).fst.snd == (lowestS (rAtS l v).fst (rAtS l v).snd).snd && true) else false then (xAtS l v).snd == checkAtS l v else false then decide ((movedF l b).1 = (movedS l b).1) else false then (movedF l b).snd == (movedS l b).snd else false then true else false) = true) ∧ ((checkAtS l v == (0 : Int)) = false → (List.length l ≤ (1000000 : Nat) ∧ ((bif bif lineS l == lineS l then (xAtS l v).fst.fst == (0 : Int) && ((xAtS l v).fst.snd == (0 : Int) && true) else false then (xAtS l v).snd == checkAtS l v else false) = true → List.length (movedF l b).1 ≤ (1000000 : Nat)) ∧ ((bif bif lineS l == lineS l then (xAtS l v).fst.fst == (0 : Int) && ((xAtS l v).fst.snd == (0 : Int) && true) else false then (xAtS l v).snd == checkAtS l v else false) = true → List.length (movedF l b).1 ≤ (1000000 : Nat))) ∧ (bif bif bif bif bif lineS l == lineS l then (xAtS l v).fst.fst == (0 : Int) && ((xAtS l v).fst.snd == (0 : Int) && true) else false then (xAtS l v).snd == checkAtS l v else false then decide ((movedF l b).1 = (movedS l b).1) else false then (movedF l b).snd == (movedS l b).snd else false then true else false) = true))) := by
  intros
  kernel_rfl
theorem wp3 (l : List (Int × Int)) (v b : Int) : wpF Tryz.prog G133 (na ()) Tryz.f3 cFlowLines (l, v, b, ()) := by
  refine (vc3 l v b).mpr ?_
  intro _
  refine ⟨fun _ => rfl, fun h => ?_⟩
  have hl : l.length ≤ 10 := by have := of_decide_eq_false h; omega
  have hm := moved_len (l := l) (b := b)
  rw [moved_eq] at *
  refine ⟨by omega, by omega, fun h1 => ?_, fun h1 => ?_⟩
  · have h1' : checkAtS l v = 0 := eq_of_beq h1
    have hb := rAt_bd h1'
    have hx : xAtS l v = (lowestS (rAtS l v).1 (rAtS l v).2, 0) := by
      obtain ⟨h0, hh⟩ := checkAt_ok h1'
      have hs : hasS l v = true := by unfold hasS; rw [decide_eq_true hh.1, decide_eq_true hh.2]; rfl
      unfold xAtS
      rw [if_neg (by simpa using h0), if_pos hs, at_eq h1']
    refine ⟨h1', ⟨by omega, by omega, by omega⟩, ⟨by omega, fun _ => hm, fun _ => hm⟩, ?_⟩
    rw [hx, h1']
    simp
  · have h1' : checkAtS l v ≠ 0 := by simpa using h1
    have hx : xAtS l v = ((0, 0), checkAtS l v) := by
      unfold checkAtS at h1' ⊢
      unfold xAtS
      split
      · rfl
      · rename_i h2
        rw [if_neg h2] at h1'
        split
        · rename_i h3
          rw [if_pos h3] at h1'
          exact absurd rfl h1'
        · rfl
    refine ⟨⟨by omega, fun _ => hm, fun _ => hm⟩, ?_⟩
    rw [hx]
    simp
theorem ok3 : Ok Tryz.prog 3 cFlowLines := ok_of_wp mixed g133 (by kernel_rfl) (by kernel_rfl) na fun xx => wp3 xx.1 xx.2.1 xx.2.2.1
abbrev G134 : Gam := (3, cFlowLines) :: G133
theorem g134 : GamOk Tryz.prog G134 := .cons ok3 g133
end Go.Proofs.YtacaadhlobbemaaGreatDoor
