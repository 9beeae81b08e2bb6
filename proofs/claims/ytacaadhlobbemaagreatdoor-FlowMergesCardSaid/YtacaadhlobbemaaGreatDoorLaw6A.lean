/- The law walked: part of the proof. -/
import Derived.Test.YtacaadhlobbemaaGreatDoorFC
set_option linter.unusedSimpArgs false
set_option linter.unusedVariables false
set_option maxRecDepth 20000
namespace Go.Proofs.YtacaadhlobbemaaGreatDoor
open Go.Sx
set_option maxHeartbeats 20000000
def cFlowMerges : Con := { args := [aL 142, aL 142], ress := [Bo], owns := [], pre := fun _ => [], spec := fun _ => (true, ()) }
theorem vc6 : ∀ (a b : List (Int × Int)), wpF Tryz.prog G133 (na ()) Tryz.f6 cFlowMerges (a, b, ()) = (((bif !shortS (List.length a) then true else !shortS (List.length b)) = true → true = true) ∧ ((bif !shortS (List.length a) then true else !shortS (List.length b)) = false → (List.length a ≤ (1000000 : Nat) ∧ List.length b ≤ (1000000 : Nat)) ∧ (List.length a ≤ (1000000 : Nat) ∧ ((ordersS a == ordersS a) = true → List.length (mergedF a b).1 ≤ (1000000 : Nat)) ∧ ((ordersS a == ordersS a) = true → List.length (mergedF a b).1 ≤ (1000000 : Nat))) ∧ (bif bif bif ordersS a == ordersS a then decide ((mergedF a b).1 = (rMergedS a b).1) else false then (mergedF a b).snd == (rMergedS a b).snd else false then true else false) = true)) := by
  intros
  kernel_rfl
theorem wp6 (a b : List (Int × Int)) : wpF Tryz.prog G133 (na ()) Tryz.f6 cFlowMerges (a, b, ()) := by
  refine (vc6 a b).mpr ?_
  refine ⟨fun _ => rfl, fun h => ?_⟩
  have hs : shortS a.length = true ∧ shortS b.length = true := by
    cases ha : shortS a.length <;> cases hb : shortS b.length <;> simp [ha, hb] at h ⊢
  have hm := merged_len (a := a) (b := b)
  unfold shortS at hs
  simp only [Bool.or_eq_true, Bool.and_eq_true, decide_eq_true_eq] at hs
  refine ⟨⟨by omega, by omega⟩, ⟨by omega, fun _ => hm, fun _ => hm⟩, ?_⟩
  rw [merged_eq]
  simp
theorem ok6 : Ok Tryz.prog 6 cFlowMerges := ok_of_wp mixed g133 (by kernel_rfl) (by kernel_rfl) na fun xx => wp6 xx.1 xx.2.1
abbrev G134 : Gam := (6, cFlowMerges) :: G133
theorem g134 : GamOk Tryz.prog G134 := .cons ok6 g133
end Go.Proofs.YtacaadhlobbemaaGreatDoor
