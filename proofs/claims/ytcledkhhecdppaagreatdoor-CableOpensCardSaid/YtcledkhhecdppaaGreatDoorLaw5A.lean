/- The law walked: part of the proof. -/
import Derived.Test.YtcledkhhecdppaaGreatDoorFC
set_option linter.unusedSimpArgs false
set_option linter.unusedVariables false
set_option maxRecDepth 20000
namespace Go.Proofs.YtcledkhhecdppaaGreatDoor
open Go.Sx
set_option maxHeartbeats 20000000
def cOpensL : Con := { args := [.val false (.list 130 sArr), aS, .val true (.prod sI (.prod sI sI))], ress := [Bo], owns := [], pre := fun (l, _) => [l.length ≤ 9223372036854775807], spec := fun _ => (true, ()) }
theorem vc5 : ∀ (l : List Arr) (e : ByteArray) (x : Int × Int × Int), wpF Tryz.prog G128 (na ()) Tryz.f5 cOpensL (l, e, x, ()) = (List.length l ≤ (9223372036854775807 : Nat) → (false = false → List.length l ≤ (9223372036854775807 : Nat)) ∧ ((bif bif false then true else !shortA l then true else decide ((20 : Int) < (↑(ByteArray.size e) : Int))) = true → true = true) ∧ ((bif bif false then true else !shortA l then true else decide ((20 : Int) < (↑(ByteArray.size e) : Int))) = false → (List.length l ≤ (1000000 : Nat) ∧ List.length l ≤ (1000000 : Nat)) ∧ (List.length l ≤ (1000000 : Nat) ∧ (5 : Nat) ≤ (1000000 : Nat)) ∧ ((firstS [arrE l, endS e, withinS x.fst (0 : Int) (999999999 : Int), thrS x.snd.fst, withinS x.snd.snd (0 : Int) (1000 : Int)] == (0 : Int)) = true → (List.length l ≤ (100000 : Nat) ∧ arrB l ∧ ((-1000000000 : Int) ≤ x.fst ∧ x.fst ≤ (2000000000 : Int)) ∧ (0 : Int) ≤ x.snd.snd ∧ x.snd.snd ≤ (100000 : Int)) ∧ numS (opnF l e x.fst x.snd.fst x.snd.snd) (opnEE l e x.fst x.snd.fst x.snd.snd) (bif Option.isSome (openS l e x.fst x.snd.fst x.snd.snd) then (0 : Int) else (7 : Int)) (Option.getD (openS l e x.fst x.snd.fst x.snd.snd) (0 : Int)) = true) ∧ ((firstS [arrE l, endS e, withinS x.fst (0 : Int) (999999999 : Int), thrS x.snd.fst, withinS x.snd.snd (0 : Int) (1000 : Int)] == (0 : Int)) = false → numS (opnF l e x.fst x.snd.fst x.snd.snd) (opnEE l e x.fst x.snd.fst x.snd.snd) (firstS [arrE l, endS e, withinS x.fst (0 : Int) (999999999 : Int), thrS x.snd.fst, withinS x.snd.snd (0 : Int) (1000 : Int)]) (0 : Int) = true))) := by
 intros
 kernel_rfl
theorem wp5 (l : List Arr) (e : ByteArray) (x : Int × Int × Int) : wpF Tryz.prog G128 (na ()) Tryz.f5 cOpensL (l, e, x, ()) := by
 refine (vc5 l e x).mpr ?_
 intro hl
 refine ⟨fun _ => hl, fun _ => rfl, fun h => ?_⟩
 have hs := shortA_len (notF.1 (bnT.1 (bnT.1 h).1).2)
 have h1 : l.length ≤ 1000000 := by omega
 obtain ⟨x0, x1, x2⟩ := x
 dsimp only
 refine ⟨⟨h1, h1⟩, ⟨h1, by decide⟩, fun q => ?_, fun q => ?_⟩
 ·have q : opnE l e x0 x1 x2 = 0 := eqz.1 q
  have hz := firstS_zero (show firstS [arrE l, endS e, withinS x0 0 999999999, thrS x1, withinS x2 0 1000] = 0 from q)
  simp only [List.mem_cons, List.not_mem_nil, or_false, forall_eq_or_imp, forall_eq] at hz
  obtain ⟨a1, a2, a3, a4, a5⟩ := hz
  have b3 := within_zero.1 a3
  have b5 := within_zero.1 a5
  refine ⟨⟨by omega, (arrE_bd a1).1, by omega, by omega⟩, ?_⟩
  unfold opnF opnEE
  rw [if_pos q, if_pos q]
  cases openS l e x0 x1 x2 with
  | none => rfl
  | some v => simp [numS]
 ·have q : ¬ opnE l e x0 x1 x2 = 0 := nez.1 q
  unfold opnF opnEE
  rw [if_neg q, if_neg q]
  show numS 0 (opnE l e x0 x1 x2) (opnE l e x0 x1 x2) 0 = true
  simp [numS, q]
theorem ok5 : Ok Tryz.prog 5 cOpensL := ok_of_wp mixed g128 (by kernel_rfl) (by kernel_rfl) na fun xx => wp5 xx.1 xx.2.1 xx.2.2.1
abbrev G129 : Gam := (5, cOpensL) :: G128
theorem g129 : GamOk Tryz.prog G129 := .cons ok5 g128
end Go.Proofs.YtcledkhhecdppaaGreatDoor
