/- The law walked: part of the proof. -/
import Derived.Test.YtacaadhlobbemaaGreatDoorFC
set_option linter.unusedSimpArgs false
set_option linter.unusedVariables false
set_option maxRecDepth 20000
namespace Go.Proofs.YtacaadhlobbemaaGreatDoor
open Go.Sx
set_option maxHeartbeats 20000000
theorem devE_eq {x : Int × Int × Int} {p : Int} : devE x p = devS x [p] := by
  unfold devE devS devsM
  by_cases h : supportS x = 0
  · simp [firstS, h]
  · simp [firstS, h]
theorem resp_eq {x : Int × Int × Int} {l : List Int} : xRespS x l = if devS x l = 0 then (l.map (addsS x), 0) else ([], devS x l) := by
  unfold xRespS devsE devS
  by_cases h : supportS x = 0
  · by_cases h2 : 256 < l.length
    · have : decide (256 < (l.length : Int)) = true := decide_eq_true (by omega)
      rw [this]
      simp [firstS, h, h2]
    · simp only [firstS, h, if_true, ne_eq, not_true, if_false, h2]
      have : decide (256 < (l.length : Int)) = false := decide_eq_false (by omega)
      rw [this]
      by_cases h3 : devsM l = 0
      · simp [h3]
      · simp [h3]
  · simp [firstS, h]
theorem devS_ok {x : Int × Int × Int} {l : List Int} (h : devS x l = 0) : suppOk x ∧ l.length ≤ 256 ∧ ∀ d ∈ l, -10000 ≤ d ∧ d ≤ 10000 := by
  unfold devS at h
  split at h
  · rename_i h1; exact absurd h h1
  · rename_i h1
    have h1 : supportS x = 0 := by simpa using h1
    split at h
    · simp at h
    · refine ⟨supp_zero h1, by omega, ?_⟩
      unfold devsM at h
      clear h1
      induction l with
      | nil => simp
      | cons a r ih =>
        rw [List.map_cons, firstS_zero] at h
        intro d hd
        rcases List.mem_cons.1 hd with rfl | hd
        · exact withinS_zero h.1
        · exact ih (by simp at *; omega) h.2 d hd
def cFlowSupports : Con := { args := [a3, aI, .val false (.list 3 sI)], ress := [Bo], owns := [], pre := fun (_, _, l, _) => [l.length ≤ 9223372036854775807], spec := fun _ => (true, ()) }
abbrev annFS (x : Int × Int × Int) (p : Int) (l : List Int) : Ann := { X := Nat, σ := fun k => ⟨4, [(1, .one (.int .i64 p)), (2, .one (.sl 0)), (3, .one (.ptr 1 0)), (7, .one (.int .i64 (if devE x p = 0 then addsS x p else 0))), (8, .one (.int .i64 (devE x p))), (9, .one (.sl 2)), (10, .one (.int .i64 (xRespS x l).2)), (11, .one (.int .i64 (devS x [p]))), (12, .one (.int .i64 (devS x l))), (13, .one (.int .i64 (if devE x p = 0 then addsS x p else 0))), (14, .one (.sl 3)), (15, .one (.int .i64 k))], [(0, .imm 3 sI l), (1, .box 147 [.int .i64 x.1, .int .i64 x.2.1, .int .i64 x.2.2]), (2, .own 3 sI (xRespS x l).1), (3, .own 3 sI ((l.take k).map (addsS x)))]⟩, inv := fun k => k ≤ l.length ∧ (k = 0 ∨ devS x l = 0) ∧ l.length ≤ 257, mu := fun k => l.length - k }
theorem vc12 : ∀ (x : Int × Int × Int) (p : Int) (l : List Int), wpF Tryz.prog G133 (ann0 (annFS x p l)) Tryz.f12 cFlowSupports (x, p, l, ()) = (List.length l ≤ (9223372036854775807 : Nat) → ((bif decide ((20 : Int) < (↑(List.length l) : Int)) then (↑(List.length l) : Int) != (257 : Int) else false) = true → true = true) ∧ ((bif decide ((20 : Int) < (↑(List.length l) : Int)) then (↑(List.length l) : Int) != (257 : Int) else false) = false → (List.length l ≤ (1000000 : Nat) ∧ List.length l ≤ (1000000 : Nat)) ∧ ((devS (x.fst, x.snd.fst, x.snd.snd) [p] == (0 : Int)) = true → (suppOk (x.fst, x.snd.fst, x.snd.snd) ∧ (-10000 : Int) ≤ p ∧ p ≤ (10000 : Int)) ∧ ∃ (x_1 : Nat), (p = p ∧ ((if devE (x.fst, x.snd.fst, x.snd.snd) p = (0 : Int) then addsS (x.fst, x.snd.fst, x.snd.snd) p else (0 : Int)) = if devE x p = (0 : Int) then addsS x p else (0 : Int)) ∧ devE (x.fst, x.snd.fst, x.snd.snd) p = devE x p ∧ (xRespS (x.fst, x.snd.fst, x.snd.snd) l).snd = (xRespS x l).snd ∧ devS (x.fst, x.snd.fst, x.snd.snd) [p] = devS x [p] ∧ devS (x.fst, x.snd.fst, x.snd.snd) l = devS x l ∧ (addsS (x.fst, x.snd.fst, x.snd.snd) p = if devE x p = (0 : Int) then addsS x p else (0 : Int)) ∧ (0 : Int) = (↑x_1 : Int) ∧ l = l ∧ x.fst = x.fst ∧ x.snd.fst = x.snd.fst ∧ x.snd.snd = x.snd.snd ∧ (xRespS (x.fst, x.snd.fst, x.snd.snd) l).1 = (xRespS x l).fst ∧ List.length (List.map (addsS x) (List.take x_1 l)) = (0 : Nat)) ∧ (x_1 ≤ List.length l ∧ (x_1 = (0 : Nat) ∨ devS x l = (0 : Int)) ∧ List.length l ≤ (257 : Nat)) ∧ ∀ (x_2 : Nat), x_2 ≤ List.length l ∧ (x_2 = (0 : Nat) ∨ devS x l = (0 : Int)) ∧ List.length l ≤ (257 : Nat) → ((bif devS x l == (0 : Int) then decide ((↑x_2 : Int) < (↑(List.length l) : Int)) else false) = true → (((0 : Int) ≤ (↑x_2 : Int) ∧ (↑x_2 : Int) < (↑(List.length l) : Int)) ∧ ((0 : Int) ≤ (↑x_2 : Int) ∧ (↑x_2 : Int) < (↑(List.length l) : Int)) ∧ suppOk (x.fst, x.snd.fst, x.snd.snd) ∧ ((-10000 : Int) ≤ List.getD l x_2 (0 : Int) ∧ List.getD l x_2 (0 : Int) ≤ (10000 : Int)) ∧ (List.length (List.map (addsS x) (List.take x_2 l)) + (1 : Nat)) * (8 : Nat) ≤ (140737488355328 : Nat)) ∧ ((-9223372036854775808 : Int) ≤ (↑x_2 : Int) + (1 : Int) ∧ (↑x_2 : Int) + (1 : Int) ≤ (9223372036854775807 : Int)) ∧ ∃ (y : Nat), (p = p ∧ ((if devE x p = (0 : Int) then addsS x p else (0 : Int)) = if devE x p = (0 : Int) then addsS x p else (0 : Int)) ∧ devE x p = devE x p ∧ (xRespS x l).snd = (xRespS x l).snd ∧ devS x [p] = devS x [p] ∧ devS x l = devS x l ∧ ((if devE x p = (0 : Int) then addsS x p else (0 : Int)) = if devE x p = (0 : Int) then addsS x p else (0 : Int)) ∧ (↑x_2 : Int) + (1 : Int) = (↑y : Int) ∧ l = l ∧ x.fst = x.fst ∧ x.snd.fst = x.snd.fst ∧ x.snd.snd = x.snd.snd ∧ (xRespS x l).1 = (xRespS x l).fst ∧ List.map (addsS x) (List.take x_2 l) ++ [addsS (x.fst, x.snd.fst, x.snd.snd) (List.getD l x_2 (0 : Int))] = List.map (addsS x) (List.take y l)) ∧ (y ≤ List.length l ∧ (y = (0 : Nat) ∨ devS x l = (0 : Int)) ∧ List.length l ≤ (257 : Nat)) ∧ List.length l - y < List.length l - x_2) ∧ ((bif devS x l == (0 : Int) then decide ((↑x_2 : Int) < (↑(List.length l) : Int)) else false) = false → ((bif bif supportS (x.fst, x.snd.fst, x.snd.snd) == supportS (x.fst, x.snd.fst, x.snd.snd) then (if devE x p = (0 : Int) then addsS x p else (0 : Int)) == if devE x p = (0 : Int) then addsS x p else (0 : Int) else false then devE x p == devS x [p] else false) = true → List.length (xRespS x l).1 ≤ (1000000 : Nat)) ∧ (bif bif bif bif bif supportS (x.fst, x.snd.fst, x.snd.snd) == supportS (x.fst, x.snd.fst, x.snd.snd) then (if devE x p = (0 : Int) then addsS x p else (0 : Int)) == if devE x p = (0 : Int) then addsS x p else (0 : Int) else false then devE x p == devS x [p] else false then decide ((xRespS x l).1 = List.map (addsS x) (List.take x_2 l)) else false then (xRespS x l).snd == devS x l else false then true else false) = true)) ∧ ((devS (x.fst, x.snd.fst, x.snd.snd) [p] == (0 : Int)) = false → ∃ (x_1 : Nat), (p = p ∧ ((if devE (x.fst, x.snd.fst, x.snd.snd) p = (0 : Int) then addsS (x.fst, x.snd.fst, x.snd.snd) p else (0 : Int)) = if devE x p = (0 : Int) then addsS x p else (0 : Int)) ∧ devE (x.fst, x.snd.fst, x.snd.snd) p = devE x p ∧ (xRespS (x.fst, x.snd.fst, x.snd.snd) l).snd = (xRespS x l).snd ∧ devS (x.fst, x.snd.fst, x.snd.snd) [p] = devS x [p] ∧ devS (x.fst, x.snd.fst, x.snd.snd) l = devS x l ∧ ((0 : Int) = if devE x p = (0 : Int) then addsS x p else (0 : Int)) ∧ (0 : Int) = (↑x_1 : Int) ∧ l = l ∧ x.fst = x.fst ∧ x.snd.fst = x.snd.fst ∧ x.snd.snd = x.snd.snd ∧ (xRespS (x.fst, x.snd.fst, x.snd.snd) l).1 = (xRespS x l).fst ∧ List.length (List.map (addsS x) (List.take x_1 l)) = (0 : Nat)) ∧ (x_1 ≤ List.length l ∧ (x_1 = (0 : Nat) ∨ devS x l = (0 : Int)) ∧ List.length l ≤ (257 : Nat)) ∧ ∀ (x_2 : Nat), x_2 ≤ List.length l ∧ (x_2 = (0 : Nat) ∨ devS x l = (0 : Int)) ∧ List.length l ≤ (257 : Nat) → ((bif devS x l == (0 : Int) then decide ((↑x_2 : Int) < (↑(List.length l) : Int)) else false) = true → (((0 : Int) ≤ (↑x_2 : Int) ∧ (↑x_2 : Int) < (↑(List.length l) : Int)) ∧ ((0 : Int) ≤ (↑x_2 : Int) ∧ (↑x_2 : Int) < (↑(List.length l) : Int)) ∧ suppOk (x.fst, x.snd.fst, x.snd.snd) ∧ ((-10000 : Int) ≤ List.getD l x_2 (0 : Int) ∧ List.getD l x_2 (0 : Int) ≤ (10000 : Int)) ∧ (List.length (List.map (addsS x) (List.take x_2 l)) + (1 : Nat)) * (8 : Nat) ≤ (140737488355328 : Nat)) ∧ ((-9223372036854775808 : Int) ≤ (↑x_2 : Int) + (1 : Int) ∧ (↑x_2 : Int) + (1 : Int) ≤ (9223372036854775807 : Int)) ∧ ∃ (y : Nat), (p = p ∧ ((if devE x p = (0 : Int) then addsS x p else (0 : Int)) = if devE x p = (0 : Int) then addsS x p else (0 : Int)) ∧ devE x p = devE x p ∧ (xRespS x l).snd = (xRespS x l).snd ∧ devS x [p] = devS x [p] ∧ devS x l = devS x l ∧ ((if devE x p = (0 : Int) then addsS x p else (0 : Int)) = if devE x p = (0 : Int) then addsS x p else (0 : Int)) ∧ (↑x_2 : Int) + (1 : Int) = (↑y : Int) ∧ l = l ∧ x.fst = x.fst ∧ x.snd.fst = x.snd.fst ∧ x.snd.snd = x.snd.snd ∧ (xRespS x l).1 = (xRespS x l).fst ∧ List.map (addsS x) (List.take x_2 l) ++ [addsS (x.fst, x.snd.fst, x.snd.snd) (List.getD l x_2 (0 : Int))] = List.map (addsS x) (List.take y l)) ∧ (y ≤ List.length l ∧ (y = (0 : Nat) ∨ devS x l = (0 : Int)) ∧ List.length l ≤ (257 : Nat)) ∧ List.length l - y < List.length l - x_2) ∧ ((bif devS x l == (0 : Int) then decide ((↑x_2 : Int) < (↑(List.length l) : Int)) else false) = false → ((bif bif supportS (x.fst, x.snd.fst, x.snd.snd) == supportS (x.fst, x.snd.fst, x.snd.snd) then (if devE x p = (0 : Int) then addsS x p else (0 : Int)) == if devE x p = (0 : Int) then addsS x p else (0 : Int) else false then devE x p == devS x [p] else false) = true → List.length (xRespS x l).1 ≤ (1000000 : Nat)) ∧ (bif bif bif bif bif supportS (x.fst, x.snd.fst, x.snd.snd) == supportS (x.fst, x.snd.fst, x.snd.snd) then (if devE x p = (0 : Int) then addsS x p else (0 : Int)) == if devE x p = (0 : Int) then addsS x p else (0 : Int) else false then devE x p == devS x [p] else false then decide ((xRespS x l).1 = List.map (addsS x) (List.take x_2 l)) else false then (xRespS x l).snd == devS x l else false then true else false) = true)))) := by
  intros
  kernel_rfl
theorem wp12 (x : Int × Int × Int) (p : Int) (l : List Int) : wpF Tryz.prog G133 (ann0 (annFS x p l)) Tryz.f12 cFlowSupports (x, p, l, ()) := by
  refine (vc12 x p l).mpr ?_
  change l.length ≤ 9223372036854775807 → _ ∧ (_ → (l.length ≤ 1000000 ∧ l.length ≤ 1000000) ∧ ((devS x [p] == 0) = true → (suppOk x ∧ -10000 ≤ p ∧ p ≤ 10000) ∧ _) ∧ _)
  intro _
  refine ⟨fun _ => rfl, fun h => ?_⟩
  have hl : l.length ≤ 257 := by
    by_cases h1 : 20 < l.length
    · have e : decide (20 < (l.length : Int)) = true := decide_eq_true (by omega)
      rw [e] at h
      simp at h
      omega
    · omega
  have hp1 : devS x [p] = 0 → suppOk x ∧ -10000 ≤ p ∧ p ≤ 10000 := fun h1 => by
    have := devS_ok h1
    exact ⟨this.1, this.2.2 p (by simp)⟩
  have hE : devE x p = devS x [p] := devE_eq
  refine ⟨by omega, fun h1 => ⟨hp1 (eq_of_beq h1), (0 : Nat), ⟨rfl, rfl, rfl, rfl, rfl, rfl, ?_, rfl, rfl, rfl, rfl, rfl, rfl, by simp⟩, ⟨Nat.zero_le _, .inl rfl, hl⟩, ?_⟩, fun h1 => ⟨(0 : Nat), ⟨rfl, rfl, rfl, rfl, rfl, rfl, ?_, rfl, rfl, rfl, rfl, rfl, rfl, by simp⟩, ⟨Nat.zero_le _, .inl rfl, hl⟩, ?_⟩⟩
  case refine_1 =>
    rw [hE, if_pos (eq_of_beq h1)]
  case refine_3 =>
    rw [hE, if_neg (by simpa using h1)]
  all_goals
    rintro k ⟨i1, i2, i3⟩
    refine ⟨fun c => ?_, fun c => ?_⟩
    · have hc : devS x l = 0 ∧ k < l.length := by
        by_cases hz : devS x l = 0
        · rw [show (devS x l == 0) = true from beq_iff_eq.2 hz] at c
          have := of_decide_eq_true c
          exact ⟨hz, by omega⟩
        · rw [show (devS x l == 0) = false from beq_eq_false_iff_ne.2 hz] at c
          cases c
      have hd := devS_ok hc.1
      refine ⟨⟨by omega, by omega, hd.1, hd.2.2 _ (getD_mem hc.2), by simp only [List.length_map, List.length_take]; omega⟩, by omega, (k + 1 : Nat), ⟨rfl, rfl, rfl, rfl, rfl, rfl, rfl, by simp, rfl, rfl, rfl, rfl, rfl, ?_⟩, ⟨by omega, .inr hc.1, hl⟩, by omega⟩
      rw [← take_snoc (d := 0) hc.2, List.map_append]; rfl
    · have hr := resp_eq (x := x) (l := l)
      have hL : (xRespS x l).1 = (l.take k).map (addsS x) ∧ (xRespS x l).2 = devS x l := by
        rw [hr]
        by_cases hz : devS x l = 0
        · rw [show (devS x l == 0) = true from beq_iff_eq.2 hz] at c
          have := of_decide_eq_false c
          rw [if_pos hz, List.take_of_length_le (by omega), hz]
          exact ⟨rfl, rfl⟩
        · have : k = 0 := i2.resolve_right hz
          rw [if_neg hz, this]
          exact ⟨rfl, rfl⟩
      rw [hE]
      clear hr
      generalize xRespS x l = rr at hL ⊢
      obtain ⟨r1, r2⟩ := rr
      obtain ⟨e1, e2⟩ := hL
      simp only at e1 e2
      subst e1; subst e2
      exact ⟨fun _ => by simp only [List.length_map, List.length_take]; omega, by simp⟩
theorem ok12 : Ok Tryz.prog 12 cFlowSupports := ok_of_wp mixed g133 (by kernel_rfl) (by kernel_rfl) (fun xx => ann0 (annFS xx.1 xx.2.1 xx.2.2.1)) fun xx => wp12 xx.1 xx.2.1 xx.2.2.1
abbrev G134 : Gam := (12, cFlowSupports) :: G133
theorem g134 : GamOk Tryz.prog G134 := .cons ok12 g133
end Go.Proofs.YtacaadhlobbemaaGreatDoor
