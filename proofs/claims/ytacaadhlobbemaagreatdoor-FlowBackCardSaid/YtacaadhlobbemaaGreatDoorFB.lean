/- Contracts of the functions that the laws reach: part of the proof. -/
import Derived.Test.YtacaadhlobbemaaGreatDoorFA
import Derived.Lib.ItoaLen
set_option linter.unusedSimpArgs false
set_option linter.unusedVariables false
set_option maxRecDepth 20000
namespace Go.Proofs.YtacaadhlobbemaaGreatDoor
open Go.Sx
theorem pos_of_mul {a b : Int} (h : 0 < a * b) (hb : 0 ≤ b) : 0 < a := by
  rcases Int.lt_or_le 0 a with h' | h'
  · exact h'
  · have := Int.mul_le_mul_of_nonneg_right h' hb
    rw [Int.zero_mul] at this
    omega
theorem comGo_in : ∀ {l : List (List (Int × Int))} {s : Int × Int}, s.1 ≤ (comGo l s).1 ∧ (comGo l s).2 ≤ s.2 ∧ ∀ x ∈ l, (endsS x).1 ≤ (comGo l s).1 ∧ (comGo l s).2 ≤ (endsS x).2
  | [], s => ⟨Int.le_refl _, Int.le_refl _, fun x hx => by simp at hx⟩
  | y :: r, s => by
    have ih := comGo_in (l := r) (s := (max s.1 (endsS y).1, min s.2 (endsS y).2))
    simp only [comGo]
    obtain ⟨h1, h2, h3⟩ := ih
    dsimp only at h1 h2
    refine ⟨by omega, by omega, fun x hx => ?_⟩
    rcases List.mem_cons.1 hx with rfl | hx
    · exact ⟨by omega, by omega⟩
    · exact h3 x hx
theorem lines_ok {l : List (List (Int × Int))} (h : linesS l = 0) : 0 < l.length ∧ l.length ≤ 3 ∧ (∀ x ∈ l, lineS x = 0) ∧ (comS l).1 ≤ (comS l).2 ∧ 0 ≤ (comS l).1 ∧ (comS l).2 ≤ 1000 := by
  have h0 : linesE l = 0 := by
    unfold linesS at h
    split at h
    · rename_i h1; exact absurd h h1
    · rename_i h1; simpa using h1
  have hz := linesE_zero h0
  have h3 : l.length ≤ 3 := by
    unfold linesE at h0
    rw [firstS_zero, firstS_zero] at h0
    have := h0.2.1
    by_cases h4 : 3 < (l.length : Int)
    · simp [h4] at this
    · omega
  have hc : (comS l).1 ≤ (comS l).2 := by
    unfold linesS at h
    rw [if_neg (by simp [h0])] at h
    by_cases h4 : (comS l).2 < (comS l).1
    · simp [h4] at h
    · omega
  have hm : l.getD 0 [] ∈ l := getD_mem hz.1
  obtain ⟨ho, hg⟩ := line_ok (hz.2 _ hm)
  have b1 := (line_at hg (k := 0) (by have := ho.1; omega)).1
  have b2 := (line_at hg (k := (l.getD 0 []).length - 1) (by have := ho.1; omega)).1
  have hi := comGo_in (l := l) (s := endsS (l.getD 0 []))
  have e1 : (endsS (l.getD 0 [])).1 = ((l.getD 0 []).getD 0 (0, 0)).1 := rfl
  have e2 : (endsS (l.getD 0 [])).2 = ((l.getD 0 []).getD ((l.getD 0 []).length - 1) (0, 0)).1 := rfl
  refine ⟨hz.1, h3, hz.2, hc, ?_, ?_⟩
  · have := hi.1; unfold comS; omega
  · have := hi.2.1; unfold comS; omega
theorem lines_in {l : List (List (Int × Int))} {v : Int} (h : linesS l = 0) (hv : (comS l).1 ≤ v ∧ v ≤ (comS l).2) : ∀ x ∈ l, lineS x = 0 ∧ inS x v := fun x hx => by
  obtain ⟨h1, h2, h3, _⟩ := lines_ok h
  have hi := (comGo_in (l := l) (s := endsS (l.getD 0 []))).2.2 x hx
  refine ⟨h3 x hx, ?_, ?_⟩
  · show (endsS x).1 ≤ v
    have := hi.1; have e : comS l = comGo l (endsS (l.getD 0 [])) := rfl; rw [e] at hv; omega
  · show v ≤ (endsS x).2
    have := hi.2; have e : comS l = comGo l (endsS (l.getD 0 [])) := rfl; rw [e] at hv; omega
def crossGo (l : List (List (Int × Int))) (load hi : Int) : Int → Nat → Option (Int × Int × Int)
  | _, 0 => none
  | v, f + 1 =>
    if (sumS l v).1 - load * (sumS l v).2 = 0 then some (v, 0, 1)
    else if (sumS l v).1 - load * (sumS l v).2 < 0 then none
    else if v = hi then none
    else if (sumS l (v + 1)).1 < load * (sumS l (v + 1)).2 then some (v, byS (plusS (sumS l v) (0 - load, 1)) (plusS (sumS l v) (0 - (sumS l (v + 1)).1, (sumS l (v + 1)).2)))
    else crossGo l load hi (v + 1) f
def crossS (l : List (List (Int × Int))) (load : Int) : Option (Int × Int × Int) := crossGo l load (comS l).2 (comS l).1 ((comS l).2 + 1 - (comS l).1).toNat
def cCross : Con := { args := [aLL 30 176, aI], ress := [I, Pr, Bo], owns := [], pre := fun (l, load, _) => [linesS l = 0, -3000 ≤ load ∧ load ≤ 3000], spec := fun (l, load, _) => ((match crossS l load with | some (v, _) => v | none => 0), (match crossS l load with | some (_, p) => p | none => (0, 0)), (crossS l load).isSome, ()) }
theorem sum_bd {l : List (List (Int × Int))} {u v : Int} (h : sumOk l u v) (h3 : l.length ≤ 3) : ∃ D : Int, 0 < D ∧ D ≤ 1000000000 ∧ D = segP v l ∧ ratD (sumS l u) D 3000 := by
  have h1 := segP_bd h
  have h2 := pow_le3 h3
  have h4 := sumS_ok h
  refine ⟨segP v l, h1.1, by omega, rfl, h4.1, h4.2.1, ?_, ?_⟩
  · have := h4.2.2.1
    have m := Int.mul_le_mul_of_nonneg_right (show 1000 * (l.length : Int) ≤ 3000 by omega) (Int.le_of_lt h4.1)
    omega
  · have := h4.2.2.2
    have m := Int.mul_le_mul_of_nonneg_right (show 1000 * (l.length : Int) ≤ 3000 by omega) (Int.le_of_lt h4.1)
    omega
theorem ratD.bd {s : Int × Int} {D K B : Int} (h : ratD s D K) (hD : 0 < D ∧ D ≤ B) (hK : 0 ≤ K) : (0 < s.2 ∧ s.2 ≤ B) ∧ -(K * B) ≤ s.1 ∧ s.1 ≤ K * B := by
  obtain ⟨h1, h2, h3, h4⟩ := h
  have := Int.le_of_dvd hD.1 h2
  have m := Int.mul_le_mul_of_nonneg_left (show s.2 ≤ B by omega) hK
  exact ⟨⟨h1, by omega⟩, by omega, by omega⟩
theorem ratD.neg {s : Int × Int} {D K : Int} (h : ratD s D K) : ratD (0 - s.1, s.2) D K := ⟨h.1, h.2.1, by have := h.2.2.2; show -(K * s.2) ≤ 0 - s.1; omega, by have := h.2.2.1; show 0 - s.1 ≤ K * s.2; omega⟩
theorem ratD_one {n D K : Int} (hn : -K ≤ n ∧ n ≤ K) : ratD (n, 1) D K := ⟨by show (0 : Int) < 1; decide, Int.one_dvd _, by show -(K * 1) ≤ n; omega, by show n ≤ K * 1; omega⟩
theorem cross_part {l : List (List (Int × Int))} {load v : Int} (h : linesS l = 0) (hL : -3000 ≤ load ∧ load ≤ 3000) (hv : (comS l).1 ≤ v ∧ v < (comS l).2) (h1 : 0 < (sumS l v).1 - load * (sumS l v).2) (h2 : (sumS l (v + 1)).1 < load * (sumS l (v + 1)).2) :
    let here := sumS l v
    let next := sumS l (v + 1)
    let fall := plusS here (0 - next.1, next.2)
    let rest := plusS here (0 - load, 1)
    (ratV here ∧ ratV (0 - next.1, next.2) ∧ lcmS here (0 - next.1, next.2) ≤ 281474976710656) ∧ (ratV here ∧ ratV (0 - load, 1) ∧ lcmS here (0 - load, 1) ≤ 281474976710656) ∧
    (ratV rest ∧ ratV fall ∧ lcmS rest fall ≤ 281474976710656 ∧ 0 < fall.1) ∧ 0 < (byS rest fall).1 ∧ (byS rest fall).1 < (byS rest fall).2 ∧ (byS rest fall).2 ≤ 6000000000000 := by
  intro here next fall rest
  obtain ⟨l1, l2, l3, _⟩ := lines_ok h
  have i0 := lines_in h (v := v) ⟨hv.1, by omega⟩
  have i1 := lines_in h (v := v + 1) ⟨by omega, by omega⟩
  obtain ⟨D, d1, d2, d3, r1⟩ := sum_bd (sumOk_same i0) l2
  obtain ⟨E, e1, e2, e3, r2⟩ := sum_bd (u := v + 1) (v := v) (sumOk_next fun x hx => ⟨(i0 x hx).1, (i0 x hx).2, (i1 x hx).2⟩) l2
  have eDE : E = D := by rw [e3, d3]
  subst eDE
  have n2 := r2.neg
  have o2 : ratD (0 - load, 1) E 3000 := ratD_one (by omega)
  have rf : ratD fall E 6000 := r1.plus n2
  have rr : ratD rest E 6000 := r1.plus o2
  have hD : 0 < E ∧ E ≤ 281474976710656 := ⟨d1, by omega⟩
  have lE := fun {s t : Int × Int} {K L : Int} (a : ratD s E K) (b : ratD t E L) => Int.le_trans (a.lcm b d1) hD.2
  -- values
  have hp := r1.1
  have np := r2.1
  have fp := rf.1
  have rp := rr.1
  have vf : fall.1 * (here.2 * next.2) = (here.1 * next.2 + (0 - next.1) * here.2) * fall.2 := plus_val hp np
  have vr : rest.1 * (here.2 * 1) = (here.1 * 1 + (0 - load) * here.2) * rest.2 := plus_val hp (y := (0 - load, 1)) Int.one_pos
  have h1 : 0 < here.1 - load * here.2 := h1
  have h2 : next.1 < load * next.2 := h2
  change 0 < here.2 at hp
  change 0 < next.2 at np
  have hn := Int.mul_pos hp np
  have vr' : rest.1 * here.2 = (here.1 - load * here.2) * rest.2 := by
    rw [Int.mul_one, Int.mul_one, show here.1 + (0 - load) * here.2 = here.1 - load * here.2 by rw [Int.sub_mul]; omega] at vr
    exact vr
  have vf' : fall.1 * (here.2 * next.2) = (here.1 * next.2 - next.1 * here.2) * fall.2 := by
    rw [vf, show here.1 * next.2 + (0 - next.1) * here.2 = here.1 * next.2 - next.1 * here.2 by rw [Int.sub_mul]; omega]
  -- over and under
  have k1 : 0 < (here.1 - load * here.2) * next.2 := Int.mul_pos h1 np
  have k2 : next.1 * here.2 < load * next.2 * here.2 := Int.mul_lt_mul_of_pos_right h2 hp
  have k3 : (here.1 - load * here.2) * next.2 < here.1 * next.2 - next.1 * here.2 := by
    rw [Int.sub_mul, show load * here.2 * next.2 = load * next.2 * here.2 by rw [Int.mul_right_comm]]
    omega
  have fpos : 0 < fall.1 := by
    have : 0 < fall.1 * (here.2 * next.2) := by rw [vf']; exact Int.mul_pos (by omega) fp
    exact pos_of_mul this (Int.le_of_lt hn)
  have rpos : 0 < rest.1 := by
    have : 0 < rest.1 * here.2 := by rw [vr']; exact Int.mul_pos h1 rp
    exact pos_of_mul this (Int.le_of_lt hp)
  have cross : rest.1 * fall.2 < fall.1 * rest.2 := by
    refine Int.lt_of_mul_lt_mul_right (a := here.2 * next.2) ?_ (Int.le_of_lt hn)
    have c1 : rest.1 * fall.2 * (here.2 * next.2) = (here.1 - load * here.2) * next.2 * (rest.2 * fall.2) := by
      rw [show rest.1 * fall.2 * (here.2 * next.2) = rest.1 * here.2 * (next.2 * fall.2) by ac_rfl, vr']
      ac_rfl
    have c2 : fall.1 * rest.2 * (here.2 * next.2) = (here.1 * next.2 - next.1 * here.2) * (rest.2 * fall.2) := by
      rw [show fall.1 * rest.2 * (here.2 * next.2) = fall.1 * (here.2 * next.2) * rest.2 by ac_rfl, vf']
      ac_rfl
    rw [c1, c2]
    exact Int.mul_lt_mul_of_pos_right k3 (Int.mul_pos rp fp)
  refine ⟨⟨r1.ratV hD (by decide), n2.ratV hD (by decide), lE r1 n2⟩, ⟨r1.ratV hD (by decide), o2.ratV hD (by decide), lE r1 o2⟩, ⟨rr.ratV hD (by decide), rf.ratV hD (by decide), lE rr rf, fpos⟩, ?_⟩
  -- the quotient
  obtain ⟨p, q, hp', hq', g1, g2, _⟩ := plus_parts rp fp
  obtain ⟨p0, q0, hh⟩ : ∃ p0 q0 : Int, p0 = rest.2.tdiv (gcdS rest.2 fall.2) ∧ q0 = fall.2.tdiv (gcdS rest.2 fall.2) := ⟨_, _, rfl, rfl⟩
  have hb : byS rest fall = lowestS (rest.1 * q0) (p0 * fall.1) := by rw [hh.1, hh.2]; rfl
  have p0pos : 0 < p0 := by
    rw [hh.1]
    have := tdiv_gcd_pos (n := fall.2) rp
    rwa [show gcdS fall.2 rest.2 = gcdS rest.2 fall.2 from by unfold gcdS; rw [Int.gcd_comm]] at this
  have q0pos : 0 < q0 := by rw [hh.2]; exact tdiv_gcd_pos fp
  have ex : p0 * gcdS rest.2 fall.2 = rest.2 := by rw [hh.1]; exact Int.tdiv_mul_cancel (Int.gcd_dvd_left rest.2 fall.2)
  have ey : q0 * gcdS rest.2 fall.2 = fall.2 := by rw [hh.2]; exact Int.tdiv_mul_cancel (Int.gcd_dvd_right rest.2 fall.2)
  have gpos : 0 < gcdS rest.2 fall.2 := gcdS_pos fp
  have hlt : rest.1 * q0 < p0 * fall.1 := by
    refine Int.lt_of_mul_lt_mul_right (a := gcdS rest.2 fall.2) ?_ (Int.le_of_lt gpos)
    rw [Int.mul_assoc, ey, Int.mul_right_comm, ex, Int.mul_comm rest.2]
    exact cross
  have hnum : 0 < rest.1 * q0 := Int.mul_pos rpos q0pos
  have hden : p0 * fall.1 ≤ 6000000000000 := by
    have b1 : p0 * fall.1 ≤ p0 * (6000 * fall.2) := Int.mul_le_mul_of_nonneg_left rf.2.2.2 (Int.le_of_lt p0pos)
    have b2 : p0 * fall.2 ≤ E := by
      have : lcmS rest fall = p0 * fall.2 := by rw [hh.1]; rfl
      rw [← this]; exact rr.lcm rf d1
    have b3 : p0 * (6000 * fall.2) = 6000 * (p0 * fall.2) := by rw [Int.mul_left_comm]
    omega
  rw [hb]
  have hdp : 0 < p0 * fall.1 := by omega
  have m1 : (lowestS (rest.1 * q0) (p0 * fall.1)).1 * gcdS (rest.1 * q0) (p0 * fall.1) = rest.1 * q0 := Int.tdiv_mul_cancel (Int.gcd_dvd_left _ _)
  have m2 : (lowestS (rest.1 * q0) (p0 * fall.1)).2 * gcdS (rest.1 * q0) (p0 * fall.1) = p0 * fall.1 := Int.tdiv_mul_cancel (Int.gcd_dvd_right _ _)
  have gg := gcdS_pos (n := rest.1 * q0) hdp
  have hle := (lowest_ok (n := 0) (K := 0) hdp (by omega)).1
  generalize (lowestS (rest.1 * q0) (p0 * fall.1)).1 = r1' at *
  have m3 : (lowestS (rest.1 * q0) (p0 * fall.1)).2 ≤ p0 * fall.1 := by
    have : (lowestS (rest.1 * q0) (p0 * fall.1)).2 ∣ p0 * fall.1 := ⟨_, m2.symm⟩
    exact Int.le_of_dvd hdp this
  generalize (lowestS (rest.1 * q0) (p0 * fall.1)).2 = r2' at *
  generalize gcdS (rest.1 * q0) (p0 * fall.1) = g at *
  refine ⟨?_, ?_, by omega⟩
  · have : 0 < r1' * g := by omega
    exact pos_of_mul this (Int.le_of_lt gg)
  · refine Int.lt_of_mul_lt_mul_right (a := g) ?_ (Int.le_of_lt gg)
    omega
abbrev annCross (l : List (List (Int × Int))) (load : Int) : Ann := { X := Int, σ := fun v => ⟨4, [(0, .one (.sl 0)), (1, .one (.int .i64 load)), (5, .one (.ptr 1 0)), (7, .one (.ptr 2 0)), (8, .one (.int .i64 0)), (9, .one (.ptr 3 0)), (10, .one (.bool false)), (11, .one (.int .i64 v))], [(0, .imm 30 (.list 176 sPt) l), (1, .box 25 [.int .i64 0, .int .i64 0]), (2, .box 66 [.int .i64 (comS l).1, .int .i64 (comS l).2]), (3, .box 25 [.int .i64 0, .int .i64 0])]⟩, inv := fun v => (comS l).1 ≤ v ∧ v ≤ (comS l).2 ∧ linesS l = 0 ∧ (-3000 ≤ load ∧ load ≤ 3000) ∧ crossS l load = crossGo l load (comS l).2 v ((comS l).2 + 1 - v).toNat, mu := fun v => ((comS l).2 + 1 - v).toNat }
theorem crossGo_step {l : List (List (Int × Int))} {load hi v : Int} (h : v ≤ hi) : crossGo l load hi v (hi + 1 - v).toNat =
    if (sumS l v).1 - load * (sumS l v).2 = 0 then some (v, 0, 1)
    else if (sumS l v).1 - load * (sumS l v).2 < 0 then none
    else if v = hi then none
    else if (sumS l (v + 1)).1 < load * (sumS l (v + 1)).2 then some (v, byS (plusS (sumS l v) (0 - load, 1)) (plusS (sumS l v) (0 - (sumS l (v + 1)).1, (sumS l (v + 1)).2)))
    else crossGo l load hi (v + 1) (hi + 1 - (v + 1)).toNat := by
  rw [show (hi + 1 - v).toNat = (hi + 1 - (v + 1)).toNat + 1 by omega]
  rfl
theorem load_bd {load n : Int} (h : -3000 ≤ load ∧ load ≤ 3000) (hn : 0 < n ∧ n ≤ 1000000000) : -3000000000000 ≤ load * n ∧ load * n ≤ 3000000000000 := mul_bd (A := 3000) (B := 1000000000) ⟨by omega, h.2⟩ ⟨by omega, hn.2⟩
theorem vc108 : ∀ (l : List (List (Int × Int))) (load : Int), wpF Tryz.prog G76 (ann0 (annCross l load)) Tryz.f108 cCross (l, load, ()) = (linesS l = (0 : Int) → (-3000 : Int) ≤ load ∧ load ≤ (3000 : Int) → ((0 : Nat) < List.length l ∧ List.length l ≤ (1000000 : Nat) ∧ ∀ (x : List (Int × Int)), x ∈ l → (0 : Nat) < List.length x ∧ List.length x ≤ (1000000 : Nat)) ∧ ∃ (x : Int), (load = load ∧ (0 : Int) = (0 : Int) ∧ false = false ∧ (comS l).fst = x ∧ l = l ∧ (0 : Int) = (0 : Int) ∧ (0 : Int) = (0 : Int) ∧ (comS l).fst = (comS l).fst ∧ (comS l).snd = (comS l).snd ∧ (0 : Int) = (0 : Int) ∧ (0 : Int) = (0 : Int)) ∧ ((comS l).fst ≤ x ∧ x ≤ (comS l).snd ∧ linesS l = (0 : Int) ∧ ((-3000 : Int) ≤ load ∧ load ≤ (3000 : Int)) ∧ crossS l load = crossGo l load (comS l).snd x (Int.toNat ((comS l).snd + (1 : Int) - x))) ∧ ∀ (x : Int), (comS l).fst ≤ x ∧ x ≤ (comS l).snd ∧ linesS l = (0 : Int) ∧ ((-3000 : Int) ≤ load ∧ load ≤ (3000 : Int)) ∧ crossS l load = crossGo l load (comS l).snd x (Int.toNat ((comS l).snd + (1 : Int) - x)) → (decide (x ≤ (comS l).snd) = true → (List.length l ≤ (3 : Nat) ∧ ∀ (x_1 : List (Int × Int)), x_1 ∈ l → lineS x_1 = (0 : Int) ∧ inS x_1 x) ∧ (((-9223372036854775808 : Int) ≤ load * (sumS l x).snd ∧ load * (sumS l x).snd ≤ (9223372036854775807 : Int)) ∧ (-9223372036854775808 : Int) ≤ (sumS l x).fst - load * (sumS l x).snd ∧ (sumS l x).fst - load * (sumS l x).snd ≤ (9223372036854775807 : Int)) ∧ (((sumS l x).fst - load * (sumS l x).snd == (0 : Int)) = true → (x = match crossS l load with | some (v, snd) => v | none => (0 : Int)) ∧ (((0 : Int), (1 : Int)) = match crossS l load with | some (fst, p) => p | none => ((0 : Int), (0 : Int))) ∧ true = Option.isSome (crossS l load)) ∧ (((sumS l x).fst - load * (sumS l x).snd == (0 : Int)) = false → (decide ((sumS l x).fst - load * (sumS l x).snd < (0 : Int)) = true → ((0 : Int) = match crossS l load with | some (v, snd) => v | none => (0 : Int)) ∧ (((0 : Int), (0 : Int)) = match crossS l load with | some (fst, p) => p | none => ((0 : Int), (0 : Int))) ∧ false = Option.isSome (crossS l load)) ∧ (decide ((sumS l x).fst - load * (sumS l x).snd < (0 : Int)) = false → ((x == (comS l).snd) = true → ((0 : Int) = match crossS l load with | some (v, snd) => v | none => (0 : Int)) ∧ (((0 : Int), (0 : Int)) = match crossS l load with | some (fst, p) => p | none => ((0 : Int), (0 : Int))) ∧ false = Option.isSome (crossS l load)) ∧ ((x == (comS l).snd) = false → (((-9223372036854775808 : Int) ≤ x + (1 : Int) ∧ x + (1 : Int) ≤ (9223372036854775807 : Int)) ∧ List.length l ≤ (3 : Nat) ∧ ∀ (x_1 : List (Int × Int)), x_1 ∈ l → lineS x_1 = (0 : Int) ∧ inS x_1 (x + (1 : Int))) ∧ ((-9223372036854775808 : Int) ≤ load * (sumS l (x + (1 : Int))).snd ∧ load * (sumS l (x + (1 : Int))).snd ≤ (9223372036854775807 : Int)) ∧ (decide ((sumS l (x + (1 : Int))).fst < load * (sumS l (x + (1 : Int))).snd) = true → (((-9223372036854775808 : Int) ≤ (0 : Int) - (sumS l (x + (1 : Int))).fst ∧ (0 : Int) - (sumS l (x + (1 : Int))).fst ≤ (9223372036854775807 : Int)) ∧ ratV ((sumS l x).fst, (sumS l x).snd) ∧ ratV ((0 : Int) - (sumS l (x + (1 : Int))).fst, (sumS l (x + (1 : Int))).snd) ∧ lcmS ((sumS l x).fst, (sumS l x).snd) ((0 : Int) - (sumS l (x + (1 : Int))).fst, (sumS l (x + (1 : Int))).snd) ≤ (281474976710656 : Int)) ∧ (((-9223372036854775808 : Int) ≤ (0 : Int) - load ∧ (0 : Int) - load ≤ (9223372036854775807 : Int)) ∧ ratV ((sumS l x).fst, (sumS l x).snd) ∧ ratV ((0 : Int) - load, (1 : Int)) ∧ lcmS ((sumS l x).fst, (sumS l x).snd) ((0 : Int) - load, (1 : Int)) ≤ (281474976710656 : Int)) ∧ (ratV ((plusS ((sumS l x).fst, (sumS l x).snd) ((0 : Int) - load, (1 : Int))).fst, (plusS ((sumS l x).fst, (sumS l x).snd) ((0 : Int) - load, (1 : Int))).snd) ∧ ratV ((plusS ((sumS l x).fst, (sumS l x).snd) ((0 : Int) - (sumS l (x + (1 : Int))).fst, (sumS l (x + (1 : Int))).snd)).fst, (plusS ((sumS l x).fst, (sumS l x).snd) ((0 : Int) - (sumS l (x + (1 : Int))).fst, (sumS l (x + (1 : Int))).snd)).snd) ∧ lcmS ((plusS ((sumS l x).fst, (sumS l x).snd) ((0 : Int) - load, (1 : Int))).fst, (plusS ((sumS l x).fst, (sumS l x).snd) ((0 : Int) - load, (1 : Int))).snd) ((plusS ((sumS l x).fst, (sumS l x).snd) ((0 : Int) - (sumS l (x + (1 : Int))).fst, (sumS l (x + (1 : Int))).snd)).fst, (plusS ((sumS l x).fst, (sumS l x).snd) ((0 : Int) - (sumS l (x + (1 : Int))).fst, (sumS l (x + (1 : Int))).snd)).snd) ≤ (281474976710656 : Int) ∧ (0 : Int) < (plusS ((sumS l x).fst, (sumS l x).snd) ((0 : Int) - (sumS l (x + (1 : Int))).fst, (sumS l (x + (1 : Int))).snd)).fst) ∧ (x = match crossS l load with | some (v, snd) => v | none => (0 : Int)) ∧ (((byS ((plusS ((sumS l x).fst, (sumS l x).snd) ((0 : Int) - load, (1 : Int))).fst, (plusS ((sumS l x).fst, (sumS l x).snd) ((0 : Int) - load, (1 : Int))).snd) ((plusS ((sumS l x).fst, (sumS l x).snd) ((0 : Int) - (sumS l (x + (1 : Int))).fst, (sumS l (x + (1 : Int))).snd)).fst, (plusS ((sumS l x).fst, (sumS l x).snd) ((0 : Int) - (sumS l (x + (1 : Int))).fst, (sumS l (x + (1 : Int))).snd)).snd)).fst, (byS ((plusS ((sumS l x).fst, (sumS l x).snd) ((0 : Int) - load, (1 : Int))).fst, (plusS ((sumS l x).fst, (sumS l x).snd) ((0 : Int) - load, (1 : Int))).snd) ((plusS ((sumS l x).fst, (sumS l x).snd) ((0 : Int) - (sumS l (x + (1 : Int))).fst, (sumS l (x + (1 : Int))).snd)).fst, (plusS ((sumS l x).fst, (sumS l x).snd) ((0 : Int) - (sumS l (x + (1 : Int))).fst, (sumS l (x + (1 : Int))).snd)).snd)).snd) = match crossS l load with | some (fst, p) => p | none => ((0 : Int), (0 : Int))) ∧ true = Option.isSome (crossS l load)) ∧ (decide ((sumS l (x + (1 : Int))).fst < load * (sumS l (x + (1 : Int))).snd) = false → ((-9223372036854775808 : Int) ≤ x + (1 : Int) ∧ x + (1 : Int) ≤ (9223372036854775807 : Int)) ∧ ∃ (y : Int), (load = load ∧ (0 : Int) = (0 : Int) ∧ false = false ∧ x + (1 : Int) = y ∧ l = l ∧ (0 : Int) = (0 : Int) ∧ (0 : Int) = (0 : Int) ∧ (comS l).fst = (comS l).fst ∧ (comS l).snd = (comS l).snd ∧ (0 : Int) = (0 : Int) ∧ (0 : Int) = (0 : Int)) ∧ ((comS l).fst ≤ y ∧ y ≤ (comS l).snd ∧ linesS l = (0 : Int) ∧ ((-3000 : Int) ≤ load ∧ load ≤ (3000 : Int)) ∧ crossS l load = crossGo l load (comS l).snd y (Int.toNat ((comS l).snd + (1 : Int) - y))) ∧ Int.toNat ((comS l).snd + (1 : Int) - y) < Int.toNat ((comS l).snd + (1 : Int) - x)))))) ∧ (decide (x ≤ (comS l).snd) = false → ((0 : Int) = match crossS l load with | some (v, snd) => v | none => (0 : Int)) ∧ (((0 : Int), (0 : Int)) = match crossS l load with | some (fst, p) => p | none => ((0 : Int), (0 : Int))) ∧ false = Option.isSome (crossS l load))) := by
  intros
  kernel_rfl
theorem wp108 (l : List (List (Int × Int))) (load : Int) : wpF Tryz.prog G76 (ann0 (annCross l load)) Tryz.f108 cCross (l, load, ()) := by
  refine (vc108 l load).mpr ?_
  intro h0 hL
  obtain ⟨l1, l2, l3, l4, l5, l6⟩ := lines_ok h0
  have hlen : ∀ x ∈ l, 0 < x.length ∧ x.length ≤ 1000000 := fun x hx => by
    have := (line_ok (l3 x hx)).1
    exact ⟨by have := this.1; omega, by have := this.2.1; omega⟩
  refine ⟨⟨l1, by omega, hlen⟩, (comS l).1, by simp, ⟨Int.le_refl _, l4, h0, hL, rfl⟩, fun (v : Int) hv => ⟨fun h => ?_, fun h => ?_⟩⟩
  · obtain ⟨v1, v2, _, _, v5⟩ := hv
    have i0 := lines_in h0 (v := v) ⟨v1, v2⟩
    obtain ⟨D, d1, d2, d3, r1⟩ := sum_bd (sumOk_same i0) l2
    have b1 := r1.bd (B := 1000000000) ⟨d1, d2⟩ (by decide)
    have b2 := load_bd hL b1.1
    have hs := crossGo_step (l := l) (load := load) v2
    rw [← v5] at hs
    have hb3 : -9223372036854775808 ≤ v + 1 ∧ v + 1 ≤ 9223372036854775807 := ⟨by omega, by omega⟩
    refine ⟨⟨by omega, i0⟩, ⟨⟨by omega, by omega⟩, by omega, by omega⟩, fun h1 => ?_, fun h1 => ⟨fun h2 => ?_, fun h2 => ⟨fun h3 => ?_, fun h3 => ?_⟩⟩⟩
    · have h1' := eq_of_beq h1
      rw [hs, if_pos h1']; exact ⟨rfl, rfl, rfl⟩
    · have h1' := ne_of_beq_false h1
      have h2' := of_decide_eq_true h2
      rw [hs, if_neg h1', if_pos h2']; exact ⟨rfl, rfl, rfl⟩
    · have h1' := ne_of_beq_false h1
      have h2' := of_decide_eq_false h2
      have h3' := eq_of_beq h3
      rw [hs, if_neg h1', if_neg h2', if_pos h3']; exact ⟨rfl, rfl, rfl⟩
    · have h1' := ne_of_beq_false h1
      have h2' := of_decide_eq_false h2
      have h3' := ne_of_beq_false h3
      rw [if_neg h1', if_neg h2', if_neg h3'] at hs
      have hv2 : v < (comS l).2 := by omega
      have i1 := lines_in h0 (v := v + 1) ⟨by omega, by omega⟩
      obtain ⟨E, e1, e2, e3, r2⟩ := sum_bd (sumOk_same i1) l2
      have b3 := r2.bd (B := 1000000000) ⟨e1, e2⟩ (by decide)
      have b4 := load_bd hL b3.1
      refine ⟨⟨hb3, by omega, i1⟩, ⟨by omega, by omega⟩, fun h4 => ?_, fun h4 => ⟨hb3, v + 1, by simp, ⟨by omega, by omega, h0, hL, ?_⟩, by omega⟩⟩
      · have h4' := of_decide_eq_true h4
        rw [if_pos h4'] at hs
        obtain ⟨p1, p2, p3, _⟩ := cross_part h0 hL ⟨v1, hv2⟩ (by omega) h4'
        refine ⟨⟨⟨by omega, by omega⟩, p1⟩, ⟨⟨by omega, by omega⟩, p2⟩, p3, ?_⟩
        rw [hs]; exact ⟨rfl, rfl, rfl⟩
      · have h4' := of_decide_eq_false h4
        rw [if_neg h4'] at hs
        exact hs
  · have := of_decide_eq_false h
    obtain ⟨v1, v2, _⟩ := hv
    omega
theorem ok108 : Ok Tryz.prog 108 cCross := ok_of_wp mixed g76 (by kernel_rfl) (by kernel_rfl) (fun xx => ann0 (annCross xx.1 xx.2.1)) fun xx => wp108 xx.1 xx.2.1
abbrev G77 : Gam := (108, cCross) :: G76
theorem g77 : GamOk Tryz.prog G77 := .cons ok108 g76
end Go.Proofs.YtacaadhlobbemaaGreatDoor
namespace Go.Proofs.YtacaadhlobbemaaGreatDoor
open Go.Sx
theorem crossGo_ok {l : List (List (Int × Int))} {load : Int} (h0 : linesS l = 0) (hL : -3000 ≤ load ∧ load ≤ 3000) : ∀ {f : Nat} {v u : Int} {p : Int × Int}, (comS l).1 ≤ v → v ≤ (comS l).2 → crossGo l load (comS l).2 v f = some (u, p) →
    ((comS l).1 ≤ u ∧ u ≤ (comS l).2) ∧ (p = (0, 1) ∨ (u < (comS l).2 ∧ 0 < p.1 ∧ p.1 < p.2 ∧ p.2 ≤ 6000000000000))
  | 0, v, u, p, _, _, h => by simp [crossGo] at h
  | f + 1, v, u, p, v1, v2, h => by
    simp only [crossGo] at h
    split at h
    · cases h; exact ⟨⟨v1, v2⟩, .inl rfl⟩
    · rename_i h1
      split at h
      · cases h
      · rename_i h2
        split at h
        · cases h
        · rename_i h3
          split at h
          · rename_i h4
            cases h
            obtain ⟨_, _, _, p4⟩ := cross_part h0 hL ⟨v1, by omega⟩ (by omega) h4
            exact ⟨⟨v1, v2⟩, .inr ⟨by omega, p4⟩⟩
          · exact crossGo_ok h0 hL (by omega) (by omega) h
theorem crossS_ok {l : List (List (Int × Int))} {load u : Int} {p : Int × Int} (h0 : linesS l = 0) (hL : -3000 ≤ load ∧ load ≤ 3000) (h : crossS l load = some (u, p)) :
    ((comS l).1 ≤ u ∧ u ≤ (comS l).2) ∧ (p = (0, 1) ∨ (u < (comS l).2 ∧ 0 < p.1 ∧ p.1 < p.2 ∧ p.2 ≤ 6000000000000)) := by
  obtain ⟨_, _, _, l4, _⟩ := lines_ok h0
  exact crossGo_ok h0 hL (Int.le_refl _) l4 h
def loadE (l : List (List (Int × Int))) (load : Int) : Int := firstS [linesS l, withinS load (-3000) 3000]
theorem loadE_zero {l : List (List (Int × Int))} {load : Int} (h : loadE l load = 0) : linesS l = 0 ∧ -3000 ≤ load ∧ load ≤ 3000 := by
  unfold loadE at h
  rw [firstS_zero, firstS_zero] at h
  exact ⟨h.1, withinS_zero h.2.1⟩
def xCrossS (l : List (List (Int × Int))) (load : Int) : (Int × Int) × Int :=
  if loadE l load ≠ 0 then ((0, 0), loadE l load) else match crossS l load with
    | some (v, p) => (plusS (v, 1) p, 0)
    | none => ((0, 0), 7)
theorem part_pre {l : List (List (Int × Int))} {load u : Int} {p : Int × Int} (h0 : linesS l = 0) (hL : -3000 ≤ load ∧ load ≤ 3000) (h : crossS l load = some (u, p)) :
    ratV (u, 1) ∧ ratV p ∧ lcmS (u, 1) p ≤ 281474976710656 := by
  obtain ⟨_, _, _, _, l5, l6⟩ := lines_ok h0
  obtain ⟨⟨u1, u2⟩, hp⟩ := crossS_ok h0 hL h
  have hp' : 0 < p.2 ∧ p.2 ≤ 6000000000000 ∧ 0 ≤ p.1 ∧ p.1 ≤ p.2 := by
    rcases hp with rfl | hp
    · simp
    · omega
  have hl : lcmS (u, 1) p ∣ p.2 := lcmS_dvd Int.one_pos hp'.1 (Int.one_dvd _) (Int.dvd_refl _)
  have := Int.le_of_dvd hp'.1 hl
  refine ⟨⟨by show (0 : Int) < 1; decide, by show (1 : Int) ≤ 281474976710656; decide, by show -(8192 * 1) ≤ u; omega, by show u ≤ 8192 * 1; omega⟩, ⟨hp'.1, by omega, by omega, by omega⟩, by omega⟩
def cXCross : Con := { args := [aLL 30 176, aI], ress := [Pr, I], owns := [], pre := fun (l, _, _) => [l.length ≤ 1000000], spec := fun (l, load, _) => ((xCrossS l load).1, (xCrossS l load).2, ()) }
theorem vc29 : ∀ (l : List (List (Int × Int))) (load : Int), wpF Tryz.prog G77 (na ()) Tryz.f29 cXCross (l, load, ()) = (List.length l ≤ (1000000 : Nat) → (List.length l ≤ (1000000 : Nat) ∧ (2 : Nat) ≤ (1000000 : Nat)) ∧ ((firstS [linesS l, withinS load (-3000 : Int) (3000 : Int)] != (0 : Int)) = true → ((0 : Int), (0 : Int)) = (xCrossS l load).fst ∧ firstS [linesS l, withinS load (-3000 : Int) (3000 : Int)] = (xCrossS l load).snd) ∧ ((firstS [linesS l, withinS load (-3000 : Int) (3000 : Int)] != (0 : Int)) = false → (linesS l = (0 : Int) ∧ (-3000 : Int) ≤ load ∧ load ≤ (3000 : Int)) ∧ ((!Option.isSome (crossS l load)) = true → ((0 : Int), (0 : Int)) = (xCrossS l load).fst ∧ (7 : Int) = (xCrossS l load).snd) ∧ ((!Option.isSome (crossS l load)) = false → (ratV (match crossS l load with | some (v, snd) => v | none => (0 : Int), (1 : Int)) ∧ ratV ((match crossS l load with | some (fst, p) => p | none => ((0 : Int), (0 : Int))).fst, (match crossS l load with | some (fst, p) => p | none => ((0 : Int), (0 : Int))).snd) ∧ lcmS (match crossS l load with | some (v, snd) => v | none => (0 : Int), (1 : Int)) ((match crossS l load with | some (fst, p) => p | none => ((0 : Int), (0 : Int))).fst, (match crossS l load with | some (fst, p) => p | none => ((0 : Int), (0 : Int))).snd) ≤ (281474976710656 : Int)) ∧ ((plusS (match crossS l load with | some (v, snd) => v | none => (0 : Int), (1 : Int)) ((match crossS l load with | some (fst, p) => p | none => ((0 : Int), (0 : Int))).fst, (match crossS l load with | some (fst, p) => p | none => ((0 : Int), (0 : Int))).snd)).fst, (plusS (match crossS l load with | some (v, snd) => v | none => (0 : Int), (1 : Int)) ((match crossS l load with | some (fst, p) => p | none => ((0 : Int), (0 : Int))).fst, (match crossS l load with | some (fst, p) => p | none => ((0 : Int), (0 : Int))).snd)).snd) = (xCrossS l load).fst ∧ (0 : Int) = (xCrossS l load).snd))) := by
  intros
  kernel_rfl
theorem wp29 (l : List (List (Int × Int))) (load : Int) : wpF Tryz.prog G77 (na ()) Tryz.f29 cXCross (l, load, ()) := by
  refine (vc29 l load).mpr ?_
  intro hb
  have hE : firstS [linesS l, withinS load (-3000) 3000] = loadE l load := rfl
  rw [hE]
  refine ⟨⟨hb, by omega⟩, fun h => ?_, fun h => ?_⟩
  · have h0 : loadE l load ≠ 0 := bne_iff_ne.1 h
    simp [xCrossS, h0]
  · have h0 : loadE l load = 0 := bne_eq_false_iff_eq.1 h
    obtain ⟨hl, hL⟩ := loadE_zero h0
    refine ⟨⟨hl, hL⟩, ?_⟩
    cases hc : crossS l load with
    | none =>
      refine ⟨fun _ => ?_, fun h1 => by simp at h1⟩
      simp [xCrossS, h0, hc]
    | some q =>
      obtain ⟨u, p⟩ := q
      refine ⟨fun h1 => by simp at h1, fun _ => ⟨part_pre hl hL hc, ?_⟩⟩
      simp [xCrossS, h0, hc]
theorem ok29 : Ok Tryz.prog 29 cXCross := ok_of_wp mixed g77 (by kernel_rfl) (by kernel_rfl) na fun xx => wp29 xx.1 xx.2.1
abbrev G78 : Gam := (29, cXCross) :: G77
theorem g78 : GamOk Tryz.prog G78 := .cons ok29 g77
def shareS (x : List (Int × Int)) (v : Int) (p : Int × Int) : Int × Int :=
  if p.1 = 0 then atS x v else
    let a := gP x (pieceS x v)
    let b := gP x (pieceS x v + 1)
    lowestS ((a.2 * (b.1 - a.1) + (b.2 - a.2) * (v - a.1)) * p.2 + (b.2 - a.2) * p.1) ((b.1 - a.1) * p.2)
def partOk (x : List (Int × Int)) (v : Int) (p : Int × Int) : Prop := lineS x = 0 ∧ inS x v ∧ (p.1 = 0 ∨ (inS x (v + 1) ∧ 0 < p.1 ∧ p.1 < p.2 ∧ p.2 ≤ 6000000000000))
def cShare : Con := { args := [aL 176, .ref 25 sPt, .ref 3 sI], ress := [Pr], owns := [], pre := fun (x, p, v, _) => [partOk x v p], spec := fun (x, p, v, _) => (shareS x v p, ()) }
theorem share_bd {x : List (Int × Int)} {v : Int} {p : Int × Int} (h : partOk x v p) (hp : p.1 ≠ 0) : let a := gP x (pieceS x v)
    let b := gP x (pieceS x v + 1)
    let here := a.2 * (b.1 - a.1) + (b.2 - a.2) * (v - a.1)
    (0 ≤ a.1 ∧ a.1 < b.1 ∧ b.1 ≤ 1000 ∧ a.1 ≤ v ∧ v ≤ b.1) ∧ (-1000 ≤ a.2 ∧ a.2 ≤ 1000) ∧ (-1000 ≤ b.2 ∧ b.2 ≤ 1000) ∧ (-1000000 ≤ a.2 * (b.1 - a.1) ∧ a.2 * (b.1 - a.1) ≤ 1000000) ∧ (-2000000 ≤ (b.2 - a.2) * (v - a.1) ∧ (b.2 - a.2) * (v - a.1) ≤ 2000000) ∧ (-1000000 ≤ here ∧ here ≤ 1000000) ∧
    (-6000000000000000000 ≤ here * p.2 ∧ here * p.2 ≤ 6000000000000000000) ∧ (-12000000000000000 ≤ (b.2 - a.2) * p.1 ∧ (b.2 - a.2) * p.1 ≤ 12000000000000000) ∧ 0 < (b.1 - a.1) * p.2 ∧ (b.1 - a.1) * p.2 ≤ 6000000000000000 := by
  intro a b here
  obtain ⟨h1, hv, h2⟩ := h
  obtain ⟨ho, hg⟩ := line_ok h1
  obtain ⟨j, j1, j2, j3, j4, j5, _, _⟩ := piece_at h1 hv
  have a0 := (line_at hg (k := j - 1) (by omega)).1
  have b0 := line_at hg (k := j) j2
  have b1 := (b0.2 (by omega)).1
  have b0 := b0.1
  have eA : a = x.getD (j - 1) (0, 0) := by show gP x (pieceS x v) = _; unfold gP; rw [j3]; congr 1; omega
  have eB : b = x.getD j (0, 0) := by show gP x (pieceS x v + 1) = _; unfold gP; rw [j3]; congr 1; omega
  rw [← eA] at a0 b1 j4
  rw [← eB] at b0 b1 j5
  have hp2 : 0 < p.1 ∧ p.1 < p.2 ∧ p.2 ≤ 6000000000000 := by
    rcases h2 with h2 | h2
    · exact absurd h2 hp
    · exact h2.2
  have e : here = a.2 * (b.1 - v) + b.2 * (v - a.1) := by
    show a.2 * (b.1 - a.1) + (b.2 - a.2) * (v - a.1) = _
    rw [show b.1 - a.1 = (b.1 - v) + (v - a.1) by omega, Int.mul_add, Int.sub_mul]; omega
  have m1 := mul_rng (a := a.2) (q := b.1 - v) (B := 1000) (by omega) ⟨by omega, by omega⟩
  have m2 := mul_rng (a := b.2) (q := v - a.1) (B := 1000) (by omega) ⟨by omega, by omega⟩
  have m3 := mul_bd (a := a.2) (b := b.1 - a.1) (A := 1000) (B := 1000) ⟨by omega, by omega⟩ ⟨by omega, by omega⟩
  have m4 := mul_bd (a := b.2 - a.2) (b := v - a.1) (A := 2000) (B := 1000) ⟨by omega, by omega⟩ ⟨by omega, by omega⟩
  have m5 := mul_bd (a := b.2 - a.2) (b := p.1) (A := 2000) (B := 6000000000000) ⟨by omega, by omega⟩ ⟨by omega, by omega⟩
  have m7 := (mul_bd (a := b.1 - a.1) (b := p.2) (A := 1000) (B := 6000000000000) ⟨by omega, by omega⟩ ⟨by omega, by omega⟩).2
  have m8 : 0 < (b.1 - a.1) * p.2 := Int.mul_pos (by omega) (by omega)
  have hh : -1000000 ≤ here ∧ here ≤ 1000000 := by
    rw [e]
    generalize a.2 * (b.1 - v) = u1 at *
    generalize b.2 * (v - a.1) = u2 at *
    omega
  have m6 := mul_bd (a := here) (b := p.2) (A := 1000000) (B := 6000000000000) ⟨by omega, hh.2⟩ ⟨by omega, by omega⟩
  exact ⟨⟨by omega, b1, by omega, j4, j5⟩, ⟨by omega, by omega⟩, ⟨by omega, by omega⟩, ⟨by omega, by omega⟩, ⟨by omega, by omega⟩, hh, ⟨by omega, by omega⟩, ⟨by omega, by omega⟩, m8, by omega⟩
theorem vc111 : ∀ (x : List (Int × Int)) (p : Int × Int) (v : Int), wpF Tryz.prog G78 (na ()) Tryz.f111 cShare (x, p, v, ()) = (partOk x v p → ((p.fst == (0 : Int)) = true → (lineOk x ∧ ((0 : Int) ≤ v ∧ v ≤ (1000 : Int)) ∧ ((0 : Int) ≤ pieceS x v ∧ pieceS x v + (1 : Int) < (↑(List.length x) : Int)) ∧ (gP x (pieceS x v)).fst < (gP x (pieceS x v + (1 : Int))).fst) ∧ ((atS x v).fst, (atS x v).snd) = shareS x v p) ∧ ((p.fst == (0 : Int)) = false → List.length x ≤ (1000000 : Nat) ∧ (((0 : Int) ≤ pieceS x v ∧ pieceS x v < (↑(List.length x) : Int)) ∧ ((0 : Int) ≤ pieceS x v ∧ pieceS x v < (↑(List.length x) : Int)) ∧ ((-9223372036854775808 : Int) ≤ pieceS x v + (1 : Int) ∧ pieceS x v + (1 : Int) ≤ (9223372036854775807 : Int)) ∧ ((0 : Int) ≤ pieceS x v + (1 : Int) ∧ pieceS x v + (1 : Int) < (↑(List.length x) : Int)) ∧ (0 : Int) ≤ pieceS x v + (1 : Int) ∧ pieceS x v + (1 : Int) < (↑(List.length x) : Int)) ∧ (((-9223372036854775808 : Int) ≤ (List.getD x (Int.toNat (pieceS x v + (1 : Int))) ((0 : Int), (0 : Int))).fst - (List.getD x (Int.toNat (pieceS x v)) ((0 : Int), (0 : Int))).fst ∧ (List.getD x (Int.toNat (pieceS x v + (1 : Int))) ((0 : Int), (0 : Int))).fst - (List.getD x (Int.toNat (pieceS x v)) ((0 : Int), (0 : Int))).fst ≤ (9223372036854775807 : Int)) ∧ (-9223372036854775808 : Int) ≤ (List.getD x (Int.toNat (pieceS x v + (1 : Int))) ((0 : Int), (0 : Int))).snd - (List.getD x (Int.toNat (pieceS x v)) ((0 : Int), (0 : Int))).snd ∧ (List.getD x (Int.toNat (pieceS x v + (1 : Int))) ((0 : Int), (0 : Int))).snd - (List.getD x (Int.toNat (pieceS x v)) ((0 : Int), (0 : Int))).snd ≤ (9223372036854775807 : Int)) ∧ (((-9223372036854775808 : Int) ≤ (List.getD x (Int.toNat (pieceS x v)) ((0 : Int), (0 : Int))).snd * ((List.getD x (Int.toNat (pieceS x v + (1 : Int))) ((0 : Int), (0 : Int))).fst - (List.getD x (Int.toNat (pieceS x v)) ((0 : Int), (0 : Int))).fst) ∧ (List.getD x (Int.toNat (pieceS x v)) ((0 : Int), (0 : Int))).snd * ((List.getD x (Int.toNat (pieceS x v + (1 : Int))) ((0 : Int), (0 : Int))).fst - (List.getD x (Int.toNat (pieceS x v)) ((0 : Int), (0 : Int))).fst) ≤ (9223372036854775807 : Int)) ∧ ((-9223372036854775808 : Int) ≤ v - (List.getD x (Int.toNat (pieceS x v)) ((0 : Int), (0 : Int))).fst ∧ v - (List.getD x (Int.toNat (pieceS x v)) ((0 : Int), (0 : Int))).fst ≤ (9223372036854775807 : Int)) ∧ ((-9223372036854775808 : Int) ≤ ((List.getD x (Int.toNat (pieceS x v + (1 : Int))) ((0 : Int), (0 : Int))).snd - (List.getD x (Int.toNat (pieceS x v)) ((0 : Int), (0 : Int))).snd) * (v - (List.getD x (Int.toNat (pieceS x v)) ((0 : Int), (0 : Int))).fst) ∧ ((List.getD x (Int.toNat (pieceS x v + (1 : Int))) ((0 : Int), (0 : Int))).snd - (List.getD x (Int.toNat (pieceS x v)) ((0 : Int), (0 : Int))).snd) * (v - (List.getD x (Int.toNat (pieceS x v)) ((0 : Int), (0 : Int))).fst) ≤ (9223372036854775807 : Int)) ∧ (-9223372036854775808 : Int) ≤ (List.getD x (Int.toNat (pieceS x v)) ((0 : Int), (0 : Int))).snd * ((List.getD x (Int.toNat (pieceS x v + (1 : Int))) ((0 : Int), (0 : Int))).fst - (List.getD x (Int.toNat (pieceS x v)) ((0 : Int), (0 : Int))).fst) + ((List.getD x (Int.toNat (pieceS x v + (1 : Int))) ((0 : Int), (0 : Int))).snd - (List.getD x (Int.toNat (pieceS x v)) ((0 : Int), (0 : Int))).snd) * (v - (List.getD x (Int.toNat (pieceS x v)) ((0 : Int), (0 : Int))).fst) ∧ (List.getD x (Int.toNat (pieceS x v)) ((0 : Int), (0 : Int))).snd * ((List.getD x (Int.toNat (pieceS x v + (1 : Int))) ((0 : Int), (0 : Int))).fst - (List.getD x (Int.toNat (pieceS x v)) ((0 : Int), (0 : Int))).fst) + ((List.getD x (Int.toNat (pieceS x v + (1 : Int))) ((0 : Int), (0 : Int))).snd - (List.getD x (Int.toNat (pieceS x v)) ((0 : Int), (0 : Int))).snd) * (v - (List.getD x (Int.toNat (pieceS x v)) ((0 : Int), (0 : Int))).fst) ≤ (9223372036854775807 : Int)) ∧ (((-9223372036854775808 : Int) ≤ ((List.getD x (Int.toNat (pieceS x v)) ((0 : Int), (0 : Int))).snd * ((List.getD x (Int.toNat (pieceS x v + (1 : Int))) ((0 : Int), (0 : Int))).fst - (List.getD x (Int.toNat (pieceS x v)) ((0 : Int), (0 : Int))).fst) + ((List.getD x (Int.toNat (pieceS x v + (1 : Int))) ((0 : Int), (0 : Int))).snd - (List.getD x (Int.toNat (pieceS x v)) ((0 : Int), (0 : Int))).snd) * (v - (List.getD x (Int.toNat (pieceS x v)) ((0 : Int), (0 : Int))).fst)) * p.snd ∧ ((List.getD x (Int.toNat (pieceS x v)) ((0 : Int), (0 : Int))).snd * ((List.getD x (Int.toNat (pieceS x v + (1 : Int))) ((0 : Int), (0 : Int))).fst - (List.getD x (Int.toNat (pieceS x v)) ((0 : Int), (0 : Int))).fst) + ((List.getD x (Int.toNat (pieceS x v + (1 : Int))) ((0 : Int), (0 : Int))).snd - (List.getD x (Int.toNat (pieceS x v)) ((0 : Int), (0 : Int))).snd) * (v - (List.getD x (Int.toNat (pieceS x v)) ((0 : Int), (0 : Int))).fst)) * p.snd ≤ (9223372036854775807 : Int)) ∧ ((-9223372036854775808 : Int) ≤ ((List.getD x (Int.toNat (pieceS x v + (1 : Int))) ((0 : Int), (0 : Int))).snd - (List.getD x (Int.toNat (pieceS x v)) ((0 : Int), (0 : Int))).snd) * p.fst ∧ ((List.getD x (Int.toNat (pieceS x v + (1 : Int))) ((0 : Int), (0 : Int))).snd - (List.getD x (Int.toNat (pieceS x v)) ((0 : Int), (0 : Int))).snd) * p.fst ≤ (9223372036854775807 : Int)) ∧ ((-9223372036854775808 : Int) ≤ ((List.getD x (Int.toNat (pieceS x v)) ((0 : Int), (0 : Int))).snd * ((List.getD x (Int.toNat (pieceS x v + (1 : Int))) ((0 : Int), (0 : Int))).fst - (List.getD x (Int.toNat (pieceS x v)) ((0 : Int), (0 : Int))).fst) + ((List.getD x (Int.toNat (pieceS x v + (1 : Int))) ((0 : Int), (0 : Int))).snd - (List.getD x (Int.toNat (pieceS x v)) ((0 : Int), (0 : Int))).snd) * (v - (List.getD x (Int.toNat (pieceS x v)) ((0 : Int), (0 : Int))).fst)) * p.snd + ((List.getD x (Int.toNat (pieceS x v + (1 : Int))) ((0 : Int), (0 : Int))).snd - (List.getD x (Int.toNat (pieceS x v)) ((0 : Int), (0 : Int))).snd) * p.fst ∧ ((List.getD x (Int.toNat (pieceS x v)) ((0 : Int), (0 : Int))).snd * ((List.getD x (Int.toNat (pieceS x v + (1 : Int))) ((0 : Int), (0 : Int))).fst - (List.getD x (Int.toNat (pieceS x v)) ((0 : Int), (0 : Int))).fst) + ((List.getD x (Int.toNat (pieceS x v + (1 : Int))) ((0 : Int), (0 : Int))).snd - (List.getD x (Int.toNat (pieceS x v)) ((0 : Int), (0 : Int))).snd) * (v - (List.getD x (Int.toNat (pieceS x v)) ((0 : Int), (0 : Int))).fst)) * p.snd + ((List.getD x (Int.toNat (pieceS x v + (1 : Int))) ((0 : Int), (0 : Int))).snd - (List.getD x (Int.toNat (pieceS x v)) ((0 : Int), (0 : Int))).snd) * p.fst ≤ (9223372036854775807 : Int)) ∧ ((-9223372036854775808 : Int) ≤ ((List.getD x (Int.toNat (pieceS x v + (1 : Int))) ((0 : Int), (0 : Int))).fst - (List.getD x (Int.toNat (pieceS x v)) ((0 : Int), (0 : Int))).fst) * p.snd ∧ ((List.getD x (Int.toNat (pieceS x v + (1 : Int))) ((0 : Int), (0 : Int))).fst - (List.getD x (Int.toNat (pieceS x v)) ((0 : Int), (0 : Int))).fst) * p.snd ≤ (9223372036854775807 : Int)) ∧ ((-9200000000000000000 : Int) ≤ ((List.getD x (Int.toNat (pieceS x v)) ((0 : Int), (0 : Int))).snd * ((List.getD x (Int.toNat (pieceS x v + (1 : Int))) ((0 : Int), (0 : Int))).fst - (List.getD x (Int.toNat (pieceS x v)) ((0 : Int), (0 : Int))).fst) + ((List.getD x (Int.toNat (pieceS x v + (1 : Int))) ((0 : Int), (0 : Int))).snd - (List.getD x (Int.toNat (pieceS x v)) ((0 : Int), (0 : Int))).snd) * (v - (List.getD x (Int.toNat (pieceS x v)) ((0 : Int), (0 : Int))).fst)) * p.snd + ((List.getD x (Int.toNat (pieceS x v + (1 : Int))) ((0 : Int), (0 : Int))).snd - (List.getD x (Int.toNat (pieceS x v)) ((0 : Int), (0 : Int))).snd) * p.fst ∧ ((List.getD x (Int.toNat (pieceS x v)) ((0 : Int), (0 : Int))).snd * ((List.getD x (Int.toNat (pieceS x v + (1 : Int))) ((0 : Int), (0 : Int))).fst - (List.getD x (Int.toNat (pieceS x v)) ((0 : Int), (0 : Int))).fst) + ((List.getD x (Int.toNat (pieceS x v + (1 : Int))) ((0 : Int), (0 : Int))).snd - (List.getD x (Int.toNat (pieceS x v)) ((0 : Int), (0 : Int))).snd) * (v - (List.getD x (Int.toNat (pieceS x v)) ((0 : Int), (0 : Int))).fst)) * p.snd + ((List.getD x (Int.toNat (pieceS x v + (1 : Int))) ((0 : Int), (0 : Int))).snd - (List.getD x (Int.toNat (pieceS x v)) ((0 : Int), (0 : Int))).snd) * p.fst ≤ (9200000000000000000 : Int)) ∧ (0 : Int) < ((List.getD x (Int.toNat (pieceS x v + (1 : Int))) ((0 : Int), (0 : Int))).fst - (List.getD x (Int.toNat (pieceS x v)) ((0 : Int), (0 : Int))).fst) * p.snd ∧ ((List.getD x (Int.toNat (pieceS x v + (1 : Int))) ((0 : Int), (0 : Int))).fst - (List.getD x (Int.toNat (pieceS x v)) ((0 : Int), (0 : Int))).fst) * p.snd ≤ (9200000000000000000 : Int)) ∧ ((lowestS (((List.getD x (Int.toNat (pieceS x v)) ((0 : Int), (0 : Int))).snd * ((List.getD x (Int.toNat (pieceS x v + (1 : Int))) ((0 : Int), (0 : Int))).fst - (List.getD x (Int.toNat (pieceS x v)) ((0 : Int), (0 : Int))).fst) + ((List.getD x (Int.toNat (pieceS x v + (1 : Int))) ((0 : Int), (0 : Int))).snd - (List.getD x (Int.toNat (pieceS x v)) ((0 : Int), (0 : Int))).snd) * (v - (List.getD x (Int.toNat (pieceS x v)) ((0 : Int), (0 : Int))).fst)) * p.snd + ((List.getD x (Int.toNat (pieceS x v + (1 : Int))) ((0 : Int), (0 : Int))).snd - (List.getD x (Int.toNat (pieceS x v)) ((0 : Int), (0 : Int))).snd) * p.fst) (((List.getD x (Int.toNat (pieceS x v + (1 : Int))) ((0 : Int), (0 : Int))).fst - (List.getD x (Int.toNat (pieceS x v)) ((0 : Int), (0 : Int))).fst) * p.snd)).fst, (lowestS (((List.getD x (Int.toNat (pieceS x v)) ((0 : Int), (0 : Int))).snd * ((List.getD x (Int.toNat (pieceS x v + (1 : Int))) ((0 : Int), (0 : Int))).fst - (List.getD x (Int.toNat (pieceS x v)) ((0 : Int), (0 : Int))).fst) + ((List.getD x (Int.toNat (pieceS x v + (1 : Int))) ((0 : Int), (0 : Int))).snd - (List.getD x (Int.toNat (pieceS x v)) ((0 : Int), (0 : Int))).snd) * (v - (List.getD x (Int.toNat (pieceS x v)) ((0 : Int), (0 : Int))).fst)) * p.snd + ((List.getD x (Int.toNat (pieceS x v + (1 : Int))) ((0 : Int), (0 : Int))).snd - (List.getD x (Int.toNat (pieceS x v)) ((0 : Int), (0 : Int))).snd) * p.fst) (((List.getD x (Int.toNat (pieceS x v + (1 : Int))) ((0 : Int), (0 : Int))).fst - (List.getD x (Int.toNat (pieceS x v)) ((0 : Int), (0 : Int))).fst) * p.snd)).snd) = shareS x v p)) := by
  intros
  kernel_rfl
theorem wp111 (x : List (Int × Int)) (p : Int × Int) (v : Int) : wpF Tryz.prog G78 (na ()) Tryz.f111 cShare (x, p, v, ()) := by
  refine (vc111 x p v).mpr ?_
  intro hp
  obtain ⟨q1, q2, q3, q4⟩ := line_pre hp.1 hp.2.1
  refine ⟨fun h => ?_, fun h => ?_⟩
  · have h0 := eq_of_beq h
    exact ⟨⟨q1, q2, q3, q4⟩, by rw [shareS, if_pos h0]⟩
  · have h0 := ne_of_beq_false h
    have hb := share_bd hp h0
    have h8 := q1.2.1
    dsimp only at hb
    obtain ⟨c1, c2, c3, c4, c5, c6, c7, c8, c9, c10⟩ := hb
    have eA : x.getD (pieceS x v).toNat (0, 0) = gP x (pieceS x v) := rfl
    have eB : x.getD (pieceS x v + 1).toNat (0, 0) = gP x (pieceS x v + 1) := rfl
    rw [eA, eB]
    rw [shareS, if_neg h0]
    dsimp only
    generalize gP x (pieceS x v) = a at *
    generalize gP x (pieceS x v + 1) = b at *
    refine ⟨by omega, ⟨by omega, by omega, by omega, by omega, by omega⟩, ⟨by omega, by omega⟩, ⟨by omega, by omega, by omega, by omega⟩, ⟨by omega, by omega, by omega, by omega, by omega, by omega⟩, ?_⟩
    rfl
theorem ok111 : Ok Tryz.prog 111 cShare := ok_of_wp mixed g78 (by kernel_rfl) (by kernel_rfl) na fun xx => wp111 xx.1 xx.2.1 xx.2.2.1
abbrev G79 : Gam := (111, cShare) :: G78
theorem g79 : GamOk Tryz.prog G79 := .cons ok111 g78
def cMapRatio : Con := { args := [aLL 30 176, .fn [(false, .list 176 sPt)] Pr], ress := [(false, .list 25 sPt)], owns := [true], pre := fun (l, (q, _), _) => [l.length ≤ 1000000, ∀ x ∈ l, conj (q (x, ()))], spec := fun (l, (_, f), _) => (l.map fun x => f (x, ()), ()) }
theorem vc110 : ∀ (l : List (List (Int × Int))) (q : List (Int × Int) × Unit → List Prop) (f : List (Int × Int) × Unit → Int × Int), wpF Tryz.prog G79 (ann0 (annMap (30 : TypeId) (25 : TypeId) (Sch.list (176 : TypeId) sPt) l Pr false q f)) Tryz.f110 cMapRatio (l, (q, f), ()) = (List.length l ≤ (1000000 : Nat) → (∀ (x : List (Int × Int)), x ∈ l → conj (q (x, PUnit.unit))) → ∃ (x : Nat), ((↑(List.length l) : Int) = (↑(List.length l) : Int) ∧ (0 : Int) = (↑x : Int) ∧ l = l ∧ (fun (x : List (Int × Int) × PUnit) => q x) = q ∧ (fun (x : List (Int × Int) × PUnit) => f x) = f ∧ List.length (List.map (fun (x : List (Int × Int)) => f (x, PUnit.unit)) (List.take x l)) = (0 : Nat)) ∧ x ≤ List.length l ∧ ∀ (x : Nat), x ≤ List.length l → (decide ((↑x : Int) < (↑(List.length l) : Int)) = true → (((0 : Int) ≤ (↑x : Int) ∧ (↑x : Int) < (↑(List.length l) : Int)) ∧ (0 : Int) ≤ (↑x : Int) ∧ (↑x : Int) < (↑(List.length l) : Int)) ∧ (conj (q (List.getD l x [], PUnit.unit)) ∧ (List.length (List.map (fun (x : List (Int × Int)) => f (x, PUnit.unit)) (List.take x l)) + (1 : Nat)) * (16 : Nat) ≤ (140737488355328 : Nat)) ∧ ((-9223372036854775808 : Int) ≤ (↑x : Int) + (1 : Int) ∧ (↑x : Int) + (1 : Int) ≤ (9223372036854775807 : Int)) ∧ ∃ (y : Nat), ((↑(List.length l) : Int) = (↑(List.length l) : Int) ∧ (↑x : Int) + (1 : Int) = (↑y : Int) ∧ l = l ∧ (fun (x : List (Int × Int) × PUnit) => q x) = q ∧ (fun (x : List (Int × Int) × PUnit) => f x) = f ∧ List.map (fun (x : List (Int × Int)) => f (x, PUnit.unit)) (List.take x l) ++ [((f (List.getD l x [], PUnit.unit)).fst, (f (List.getD l x [], PUnit.unit)).snd)] = List.map (fun (x : List (Int × Int)) => f (x, PUnit.unit)) (List.take y l)) ∧ y ≤ List.length l ∧ List.length l - y < List.length l - x) ∧ (decide ((↑x : Int) < (↑(List.length l) : Int)) = false → List.map (fun (x : List (Int × Int)) => f (x, PUnit.unit)) (List.take x l) = List.map (fun (x : List (Int × Int)) => f (x, PUnit.unit)) l)) := by
  intros
  kernel_rfl
theorem wp110 (l : List (List (Int × Int))) (q : List (Int × Int) × Unit → List Prop) (f : List (Int × Int) × Unit → Int × Int) : wpF Tryz.prog G79 (ann0 (annMap 30 25 (.list 176 sPt) l Pr false q f)) Tryz.f110 cMapRatio (l, (q, f), ()) := by
  refine (vc110 l q f).mpr ?_
  intro hb hq
  refine ⟨(0 : Nat), ⟨rfl, rfl, rfl, rfl, rfl, by simp⟩, Nat.zero_le _, fun (k : Nat) hk => ⟨fun h => ?_, fun h => ?_⟩⟩
  · have hlt : k < l.length := by simpa using h
    refine ⟨by omega, ⟨hq (l.getD k []) (getD_mem hlt), by simp only [List.length_map, List.length_take]; omega⟩, by omega, (k + 1 : Nat), ⟨rfl, by simp, rfl, rfl, rfl, ?_⟩, by omega, by omega⟩
    rw [← take_snoc (d := []) hlt, List.map_append]; rfl
  · have hlt : ¬ k < l.length := by simpa using h
    rw [List.take_of_length_le (by omega)]
theorem ok110 : Ok Tryz.prog 110 cMapRatio := ok_of_wp mixed g79 (by kernel_rfl) (by kernel_rfl) (fun xx => ann0 (annMap 30 25 (.list 176 sPt) xx.1 Pr false xx.2.1.1 xx.2.1.2)) fun xx => wp110 xx.1 xx.2.1.1 xx.2.1.2
abbrev G80 : Gam := (110, cMapRatio) :: G79
theorem g80 : GamOk Tryz.prog G80 := .cons ok110 g79
def xShareS (l : List (List (Int × Int))) (load : Int) : List (Int × Int) × Int :=
  if loadE l load ≠ 0 then ([], loadE l load) else match crossS l load with
    | some (v, p) => (l.map fun x => shareS x v p, 0)
    | none => ([], 7)
theorem part_ok {l : List (List (Int × Int))} {load u : Int} {p : Int × Int} (h0 : linesS l = 0) (hL : -3000 ≤ load ∧ load ≤ 3000) (h : crossS l load = some (u, p)) : ∀ x ∈ l, partOk x u p := fun x hx => by
  obtain ⟨hu, hp⟩ := crossS_ok h0 hL h
  have h1 := lines_in h0 hu x hx
  refine ⟨h1.1, h1.2, ?_⟩
  rcases hp with rfl | ⟨u2, hp⟩
  · exact .inl rfl
  · exact .inr ⟨(lines_in h0 (v := u + 1) ⟨by omega, by omega⟩ x hx).2, hp⟩
def cXShares : Con := { args := [aLL 30 176, aI], ress := [(false, .list 25 sPt), I], owns := [true], pre := fun (l, _, _) => [l.length ≤ 1000000], spec := fun (l, load, _) => ((xShareS l load).1, (xShareS l load).2, ()) }
theorem vc31 : ∀ (l : List (List (Int × Int))) (load : Int), wpF Tryz.prog G80 (na ()) Tryz.f31 cXShares (l, load, ()) = (List.length l ≤ (1000000 : Nat) → (List.length l ≤ (1000000 : Nat) ∧ (2 : Nat) ≤ (1000000 : Nat)) ∧ ((firstS [linesS l, withinS load (-3000 : Int) (3000 : Int)] != (0 : Int)) = true → [] = (xShareS l load).fst ∧ firstS [linesS l, withinS load (-3000 : Int) (3000 : Int)] = (xShareS l load).snd) ∧ ((firstS [linesS l, withinS load (-3000 : Int) (3000 : Int)] != (0 : Int)) = false → (linesS l = (0 : Int) ∧ (-3000 : Int) ≤ load ∧ load ≤ (3000 : Int)) ∧ ((!Option.isSome (crossS l load)) = true → [] = (xShareS l load).fst ∧ (7 : Int) = (xShareS l load).snd) ∧ ((!Option.isSome (crossS l load)) = false → (List.length l ≤ (1000000 : Nat) ∧ ∀ (x : List (Int × Int)), x ∈ l → partOk x (match crossS l load with | some (v, snd) => v | none => (0 : Int)) ((match crossS l load with | some (fst, p) => p | none => ((0 : Int), (0 : Int))).fst, (match crossS l load with | some (fst, p) => p | none => ((0 : Int), (0 : Int))).snd)) ∧ List.map (fun (x : List (Int × Int)) => shareS x (match crossS l load with | some (v, snd) => v | none => (0 : Int)) ((match crossS l load with | some (fst, p) => p | none => ((0 : Int), (0 : Int))).fst, (match crossS l load with | some (fst, p) => p | none => ((0 : Int), (0 : Int))).snd)) l = (xShareS l load).fst ∧ (0 : Int) = (xShareS l load).snd))) := by
  intros
  kernel_rfl
theorem wp31 (l : List (List (Int × Int))) (load : Int) : wpF Tryz.prog G80 (na ()) Tryz.f31 cXShares (l, load, ()) := by
  refine (vc31 l load).mpr ?_
  intro hb
  have hE : firstS [linesS l, withinS load (-3000) 3000] = loadE l load := rfl
  rw [hE]
  refine ⟨⟨hb, by omega⟩, fun h => ?_, fun h => ?_⟩
  · have h0 : loadE l load ≠ 0 := bne_iff_ne.1 h
    simp [xShareS, h0]
  · have h0 : loadE l load = 0 := bne_eq_false_iff_eq.1 h
    obtain ⟨hl, hL⟩ := loadE_zero h0
    refine ⟨⟨hl, hL⟩, ?_⟩
    cases hc : crossS l load with
    | none =>
      refine ⟨fun _ => ?_, fun h1 => by simp at h1⟩
      simp [xShareS, h0, hc]
    | some q =>
      obtain ⟨u, p⟩ := q
      refine ⟨fun h1 => by simp at h1, fun _ => ?_⟩
      exact ⟨⟨hb, part_ok hl hL hc⟩, by simp [xShareS, h0, hc], by simp [xShareS, h0, hc]⟩
theorem ok31 : Ok Tryz.prog 31 cXShares := ok_of_wp mixed g80 (by kernel_rfl) (by kernel_rfl) na fun xx => wp31 xx.1 xx.2.1
abbrev G81 : Gam := (31, cXShares) :: G80
theorem g81 : GamOk Tryz.prog G81 := .cons ok31 g80
def movedF (l : List (Int × Int)) (b : Int) : List (Int × Int) × Int :=
  if movedErr l b ≠ 0 then ([], movedErr l b) else if lineS (l.map fun p => (p.1, p.2 + b)) ≠ 0 then ([], 4) else (l.map fun p => (p.1, p.2 + b), 0)
def mixS (l : List (Int × Int)) (b : Int) (k : Nat) : List (Int × Int) := ((l.take k).map fun p => (p.1, p.2 + b)) ++ l.drop k
theorem mix_at {l : List (Int × Int)} {b : Int} {k : Nat} (h : k < l.length) : (mixS l b k).getD k (0, 0) = l.getD k (0, 0) := by
  unfold mixS
  simp only [List.getD_eq_getElem?_getD]
  rw [List.getElem?_append_right (by simp; omega)]
  simp [Nat.min_eq_left (Nat.le_of_lt h)]
theorem mix_set {l : List (Int × Int)} {b : Int} {k : Nat} (h : k < l.length) : (mixS l b k).set k ((l.getD k (0, 0)).1, (l.getD k (0, 0)).2 + b) = mixS l b (k + 1) := by
  unfold mixS
  have e1 : l.getD k (0, 0) = l[k] := by simp [List.getD_eq_getElem?_getD, h]
  have e2 : ((l.take k).map fun p : Int × Int => (p.1, p.2 + b)).length = k := by simp; omega
  rw [List.set_append_right _ _ (by omega), e2, Nat.sub_self, List.drop_eq_getElem_cons h, List.set_cons_zero, e1, List.take_succ_eq_append_getElem h, List.map_append]
  simp
theorem mix_len {l : List (Int × Int)} {b : Int} {k : Nat} : (mixS l b k).length = l.length := by
  unfold mixS
  simp; omega
def cXMoved : Con := { args := [aL 176, aI], ress := [(false, .list 176 sPt), I], owns := [true], pre := fun _ => [], spec := fun (l, b, _) => ((movedF l b).1, (movedF l b).2, ()) }
abbrev annXMoved (l : List (Int × Int)) (b : Int) : Ann := { X := Nat, σ := fun k => ⟨2, [(1, .one (.int .i64 b)), (7, .one (.sl 1)), (25, .one (.int .i64 l.length)), (26, .one (.int .i64 k))], [(1, .own 176 sPt (mixS l b k))]⟩, inv := fun k => k ≤ l.length ∧ movedErr l b = 0, mu := fun k => l.length - k }
theorem vc19 : ∀ (l : List (Int × Int)) (b : Int), wpF Tryz.prog G81 (ann0 (annXMoved l b)) Tryz.f19 cXMoved (l, b, ()) = ((2 : Nat) ≤ (1000000 : Nat) ∧ ((firstS [lineS l, withinS b (-2000 : Int) (2000 : Int)] != (0 : Int)) = true → [] = (movedF l b).fst ∧ firstS [lineS l, withinS b (-2000 : Int) (2000 : Int)] = (movedF l b).snd) ∧ ((firstS [lineS l, withinS b (-2000 : Int) (2000 : Int)] != (0 : Int)) = false → (((0 : Int) ≤ (↑(List.length l) : Int) ∧ (↑(List.length l) : Int) ≤ (1000000 : Int)) ∧ (↑(List.length l) : Int) = (↑(List.length l) : Int)) ∧ (List.length l = List.length (List.replicate (List.length l) ((0 : Int), (0 : Int))) ∧ (0 : Nat) < List.length (List.replicate (List.length l) ((0 : Int), (0 : Int)))) ∧ ∃ (x : Nat), (b = b ∧ (↑(List.length l) : Int) = (↑(List.length l) : Int) ∧ (0 : Int) = (↑x : Int) ∧ l = mixS l b x) ∧ (x ≤ List.length l ∧ movedErr l b = (0 : Int)) ∧ ∀ (x : Nat), x ≤ List.length l ∧ movedErr l b = (0 : Int) → (decide ((↑x : Int) < (↑(List.length l) : Int)) = true → (((0 : Int) ≤ (↑x : Int) ∧ (↑x : Int) < (↑(List.length (mixS l b x)) : Int)) ∧ ((0 : Int) ≤ (↑x : Int) ∧ (↑x : Int) < (↑(List.length (mixS l b x)) : Int)) ∧ ((-9223372036854775808 : Int) ≤ (List.getD (mixS l b x) x ((0 : Int), (0 : Int))).snd + b ∧ (List.getD (mixS l b x) x ((0 : Int), (0 : Int))).snd + b ≤ (9223372036854775807 : Int)) ∧ ((0 : Int) ≤ (↑x : Int) ∧ (↑x : Int) < (↑(List.length (mixS l b x)) : Int)) ∧ (0 : Int) ≤ (↑x : Int) ∧ (↑x : Int) < (↑(List.length (mixS l b x)) : Int)) ∧ ((-9223372036854775808 : Int) ≤ (↑x : Int) + (1 : Int) ∧ (↑x : Int) + (1 : Int) ≤ (9223372036854775807 : Int)) ∧ ∃ (y : Nat), (b = b ∧ (↑(List.length l) : Int) = (↑(List.length l) : Int) ∧ (↑x : Int) + (1 : Int) = (↑y : Int) ∧ List.set (mixS l b x) x ((List.getD (mixS l b x) x ((0 : Int), (0 : Int))).fst, (List.getD (mixS l b x) x ((0 : Int), (0 : Int))).snd + b) = mixS l b y) ∧ (y ≤ List.length l ∧ movedErr l b = (0 : Int)) ∧ List.length l - y < List.length l - x) ∧ (decide ((↑x : Int) < (↑(List.length l) : Int)) = false → ((lineS (mixS l b x) != (0 : Int)) = true → [] = (movedF l b).fst ∧ (4 : Int) = (movedF l b).snd) ∧ ((lineS (mixS l b x) != (0 : Int)) = false → mixS l b x = (movedF l b).fst ∧ (0 : Int) = (movedF l b).snd)))) := by
  intros
  kernel_rfl
theorem wp19 (l : List (Int × Int)) (b : Int) : wpF Tryz.prog G81 (ann0 (annXMoved l b)) Tryz.f19 cXMoved (l, b, ()) := by
  refine (vc19 l b).mpr ?_
  have hM : firstS [lineS l, withinS b (-2000) 2000] = movedErr l b := rfl
  rw [hM]
  refine ⟨by omega, fun h => ?_, fun h => ?_⟩
  · have h0 : movedErr l b ≠ 0 := bne_iff_ne.1 h
    simp [movedF, h0]
  · have h0 : movedErr l b = 0 := bne_eq_false_iff_eq.1 h
    have h0' := h0
    simp only [movedErr, firstS_zero] at h0'
    obtain ⟨ho, hg⟩ := line_ok h0'.1
    have hb := withinS_zero h0'.2.1
    have hl := ho.1
    have hl8 := ho.2.1
    refine ⟨⟨⟨by omega, by omega⟩, rfl⟩, ⟨by simp, by simp; omega⟩, (0 : Nat), ⟨rfl, rfl, rfl, by simp [mixS]⟩, ⟨Nat.zero_le _, h0⟩, fun (k : Nat) hk => ⟨fun h => ?_, fun h => ?_⟩⟩
    · have hlt : k < l.length := by simpa using h
      have a0 := (line_at hg hlt).1
      have hm := mix_len (l := l) (b := b) (k := k)
      rw [mix_at hlt, mix_set hlt, hm]
      exact ⟨⟨⟨by omega, by omega⟩, ⟨by omega, by omega⟩, ⟨by omega, by omega⟩, ⟨by omega, by omega⟩, by omega, by omega⟩, ⟨by omega, by omega⟩, (k + 1 : Nat), ⟨rfl, rfl, by simp, rfl⟩, ⟨by omega, h0⟩, by omega⟩
    · have hlt : ¬ k < l.length := by simpa using h
      have e : k = l.length := by omega
      have em : mixS l b k = l.map fun p => (p.1, p.2 + b) := by rw [e]; simp [mixS]
      rw [em]
      refine ⟨fun h1 => ?_, fun h1 => ?_⟩
      · have h1' := bne_iff_ne.1 h1
        simp [movedF, h0, h1']
      · have h1' := bne_eq_false_iff_eq.1 h1
        simp [movedF, h0, h1']
theorem ok19 : Ok Tryz.prog 19 cXMoved := ok_of_wp mixed g81 (by kernel_rfl) (by kernel_rfl) (fun xx => ann0 (annXMoved xx.1 xx.2.1)) fun xx => wp19 xx.1 xx.2.1
abbrev G82 : Gam := (19, cXMoved) :: G81
theorem g82 : GamOk Tryz.prog G82 := .cons ok19 g81
end Go.Proofs.YtacaadhlobbemaaGreatDoor
namespace Go.Proofs.YtacaadhlobbemaaGreatDoor
open Go.Sx
def rampE (x : Int × Int × Int) (fr : Int) (l : List (Int × Int)) : Int := firstS [rulesS x, withinS fr x.2.1 x.2.2, ordersS l]
def cCheckRamp : Con := { args := [a3, aI, aL 172], ress := [I], owns := [], pre := fun _ => [], spec := fun (x, fr, l, _) => (rampE x fr l, ()) }
theorem vc131 : ∀ (x : Int × Int × Int) (fr : Int) (l : List (Int × Int)), wpF Tryz.prog G82 (na ()) Tryz.f131 cCheckRamp (x, fr, l, ()) = ((3 : Nat) ≤ (1000000 : Nat) ∧ firstS [rulesS (x.fst, x.snd.fst, x.snd.snd), withinS fr x.snd.fst x.snd.snd, ordersS l] = rampE x fr l) := by
  intros
  kernel_rfl
theorem wp131 (x : Int × Int × Int) (fr : Int) (l : List (Int × Int)) : wpF Tryz.prog G82 (na ()) Tryz.f131 cCheckRamp (x, fr, l, ()) := by
  refine (vc131 x fr l).mpr ?_
  exact ⟨by omega, rfl⟩
theorem ok131 : Ok Tryz.prog 131 cCheckRamp := ok_of_wp mixed g82 (by kernel_rfl) (by kernel_rfl) na fun xx => wp131 xx.1 xx.2.1 xx.2.2.1
abbrev G83 : Gam := (131, cCheckRamp) :: G82
theorem g83 : GamOk Tryz.prog G83 := .cons ok131 g82
abbrev sSt : Sch := .prod sPt sPt
abbrev aSt : AK := .val true sSt
abbrev StT := (Int × Int) × Int × Int
def stepOk (s : StT) : Prop := (0 ≤ s.1.1 ∧ s.1.1 ≤ 100000) ∧ (-1000 ≤ s.1.2 ∧ s.1.2 ≤ 1000) ∧ (-1000 ≤ s.2.1 ∧ s.2.1 ≤ 1000) ∧ (0 ≤ s.2.2 ∧ s.2.2 ≤ 100000)
def changeS (s : StT) : Int := max (s.1.2 - s.2.1) (s.2.1 - s.1.2)
def cChange : Con := { args := [aSt], ress := [I], owns := [], pre := fun (s, _) => [stepOk s], spec := fun (s, _) => (changeS s, ()) }
theorem vc139 : ∀ (s : StT), wpF Tryz.prog G83 (na ()) Tryz.f139 cChange (s, ()) = (stepOk s → (((-9223372036854775808 : Int) ≤ s.fst.snd - s.snd.fst ∧ s.fst.snd - s.snd.fst ≤ (9223372036854775807 : Int)) ∧ (-9223372036854775808 : Int) ≤ s.snd.fst - s.fst.snd ∧ s.snd.fst - s.fst.snd ≤ (9223372036854775807 : Int)) ∧ max (s.fst.snd - s.snd.fst) (s.snd.fst - s.fst.snd) = changeS s) := by
  intros
  kernel_rfl
theorem wp139 (s : StT) : wpF Tryz.prog G83 (na ()) Tryz.f139 cChange (s, ()) := by
  refine (vc139 s).mpr ?_
  intro h
  obtain ⟨h1, h2, h3, h4⟩ := h
  exact ⟨⟨⟨by omega, by omega⟩, by omega, by omega⟩, rfl⟩
theorem ok139 : Ok Tryz.prog 139 cChange := ok_of_wp mixed g83 (by kernel_rfl) (by kernel_rfl) na fun xx => wp139 xx.1
abbrev G84 : Gam := (139, cChange) :: G83
theorem g84 : GamOk Tryz.prog G84 := .cons ok139 g83
def ruleOk (x : Int × Int × Int) : Prop := (1 ≤ x.1 ∧ x.1 ≤ 1000) ∧ (-1000 ≤ x.2.1 ∧ x.2.1 ≤ 1000) ∧ (-1000 ≤ x.2.2 ∧ x.2.2 ≤ 1000)
def refusedS (x : Int × Int × Int) (s : StT) : Int := firstS [bif decide (s.1.2 < x.2.1) || decide (x.2.2 < s.1.2) then 30 else 0, bif decide (x.1 * (s.1.1 - s.2.2) < changeS s) then 21 else 0]
def cRefuse : Con := { args := [a3, aSt], ress := [I], owns := [], pre := fun (x, s, _) => [ruleOk x, stepOk s], spec := fun (x, s, _) => (refusedS x s, ()) }
theorem vc135 : ∀ (x : Int × Int × Int) (s : StT), wpF Tryz.prog G84 (na ()) Tryz.f135 cRefuse (x, s, ()) = (ruleOk x → stepOk s → (stepOk ((s.fst.fst, s.fst.snd), s.snd.fst, s.snd.snd) ∧ ((-9223372036854775808 : Int) ≤ s.fst.fst - s.snd.snd ∧ s.fst.fst - s.snd.snd ≤ (9223372036854775807 : Int)) ∧ ((-9223372036854775808 : Int) ≤ x.fst * (s.fst.fst - s.snd.snd) ∧ x.fst * (s.fst.fst - s.snd.snd) ≤ (9223372036854775807 : Int)) ∧ (2 : Nat) ≤ (1000000 : Nat)) ∧ firstS [bif bif decide (s.fst.snd < x.snd.fst) then true else decide (x.snd.snd < s.fst.snd) then (30 : Int) else (0 : Int), bif decide (x.fst * (s.fst.fst - s.snd.snd) < changeS ((s.fst.fst, s.fst.snd), s.snd.fst, s.snd.snd)) then (21 : Int) else (0 : Int)] = refusedS x s) := by
  intros
  kernel_rfl
theorem wp135 (x : Int × Int × Int) (s : StT) : wpF Tryz.prog G84 (na ()) Tryz.f135 cRefuse (x, s, ()) := by
  refine (vc135 x s).mpr ?_
  intro hx hs
  have h1 := hs.1
  have h4 := hs.2.2.2
  have m := mul_bd (a := x.1) (b := s.1.1 - s.2.2) (A := 1000) (B := 100000) ⟨by have := hx.1; omega, hx.1.2⟩ ⟨by omega, by omega⟩
  refine ⟨⟨hs, ⟨by omega, by omega⟩, ⟨by omega, by omega⟩, by omega⟩, ?_⟩
  unfold refusedS
  cases decide (s.1.2 < x.2.1) <;> rfl
theorem ok135 : Ok Tryz.prog 135 cRefuse := ok_of_wp mixed g84 (by kernel_rfl) (by kernel_rfl) na fun xx => wp135 xx.1 xx.2.1
abbrev G85 : Gam := (135, cRefuse) :: G84
theorem g85 : GamOk Tryz.prog G85 := .cons ok135 g84
def cRefused1 : Con := { args := [aSt, .ref 101 s3], ress := [Bo], owns := [], pre := fun (s, x, _) => [ruleOk x, stepOk s], spec := fun (s, x, _) => (refusedS x s != 0, ()) }
theorem vc134 : ∀ (s : StT) (x : Int × Int × Int), wpF Tryz.prog G85 (na ()) Tryz.f134 cRefused1 (s, x, ()) = (ruleOk x → stepOk s → (ruleOk (x.fst, x.snd.fst, x.snd.snd) ∧ stepOk ((s.fst.fst, s.fst.snd), s.snd.fst, s.snd.snd)) ∧ (refusedS (x.fst, x.snd.fst, x.snd.snd) ((s.fst.fst, s.fst.snd), s.snd.fst, s.snd.snd) != (0 : Int)) = (refusedS x s != (0 : Int))) := by
  intros
  kernel_rfl
theorem wp134 (s : StT) (x : Int × Int × Int) : wpF Tryz.prog G85 (na ()) Tryz.f134 cRefused1 (s, x, ()) := by
  refine (vc134 s x).mpr ?_
  intro hx hs
  exact ⟨⟨hx, hs⟩, rfl⟩
theorem ok134 : Ok Tryz.prog 134 cRefused1 := ok_of_wp mixed g85 (by kernel_rfl) (by kernel_rfl) na fun xx => wp134 xx.1 xx.2.1
abbrev G86 : Gam := (134, cRefused1) :: G85
theorem g86 : GamOk Tryz.prog G86 := .cons ok134 g85
def cRamp1 : Con := { args := [aSt, .ref 3 sI], ress := [Bo], owns := [], pre := fun _ => [], spec := fun (s, t, _) => (decide (t ≤ s.1.1), ()) }
theorem vc137 : ∀ (s : StT) (t : Int), wpF Tryz.prog G86 (na ()) Tryz.f137 cRamp1 (s, t, ()) = (decide (t ≤ s.fst.fst) = decide (t ≤ s.fst.fst)) := by
  intros
  kernel_rfl
theorem wp137 (s : StT) (t : Int) : wpF Tryz.prog G86 (na ()) Tryz.f137 cRamp1 (s, t, ()) := by
  refine (vc137 s t).mpr ?_
  rfl
theorem ok137 : Ok Tryz.prog 137 cRamp1 := ok_of_wp mixed g86 (by kernel_rfl) (by kernel_rfl) na fun xx => wp137 xx.1 xx.2.1
abbrev G87 : Gam := (137, cRamp1) :: G86
theorem g87 : GamOk Tryz.prog G87 := .cons ok137 g86
def stepAtS (s : StT) (rate t : Int) : Int := bif decide (s.2.1 < s.1.2) then max s.2.1 (s.1.2 - rate * (s.1.1 - t)) else min s.2.1 (s.1.2 + rate * (s.1.1 - t))
def cStepAt : Con := { args := [aSt, aI, aI], ress := [I], owns := [], pre := fun (s, rate, t, _) => [stepOk s, 1 ≤ rate ∧ rate ≤ 1000, 0 ≤ t ∧ t ≤ 100000], spec := fun (s, rate, t, _) => (stepAtS s rate t, ()) }
theorem vc138 : ∀ (s : StT) (rate t : Int), wpF Tryz.prog G87 (na ()) Tryz.f138 cStepAt (s, rate, t, ()) = (stepOk s → (1 : Int) ≤ rate ∧ rate ≤ (1000 : Int) → (0 : Int) ≤ t ∧ t ≤ (100000 : Int) → (((-9223372036854775808 : Int) ≤ s.fst.fst - t ∧ s.fst.fst - t ≤ (9223372036854775807 : Int)) ∧ (-9223372036854775808 : Int) ≤ rate * (s.fst.fst - t) ∧ rate * (s.fst.fst - t) ≤ (9223372036854775807 : Int)) ∧ (decide (s.snd.fst < s.fst.snd) = true → ((-9223372036854775808 : Int) ≤ s.fst.snd - rate * (s.fst.fst - t) ∧ s.fst.snd - rate * (s.fst.fst - t) ≤ (9223372036854775807 : Int)) ∧ max s.snd.fst (s.fst.snd - rate * (s.fst.fst - t)) = stepAtS s rate t) ∧ (decide (s.snd.fst < s.fst.snd) = false → ((-9223372036854775808 : Int) ≤ s.fst.snd + rate * (s.fst.fst - t) ∧ s.fst.snd + rate * (s.fst.fst - t) ≤ (9223372036854775807 : Int)) ∧ min s.snd.fst (s.fst.snd + rate * (s.fst.fst - t)) = stepAtS s rate t)) := by
  intros
  kernel_rfl
theorem wp138 (s : StT) (rate t : Int) : wpF Tryz.prog G87 (na ()) Tryz.f138 cStepAt (s, rate, t, ()) := by
  refine (vc138 s rate t).mpr ?_
  intro hs hr ht
  obtain ⟨h1, h2, h3, h4⟩ := hs
  have m := mul_bd (a := rate) (b := s.1.1 - t) (A := 1000) (B := 100000) ⟨by omega, hr.2⟩ ⟨by omega, by omega⟩
  unfold stepAtS
  generalize rate * (s.1.1 - t) = u at *
  refine ⟨⟨⟨by omega, by omega⟩, by omega, by omega⟩, fun h => ⟨⟨by omega, by omega⟩, ?_⟩, fun h => ⟨⟨by omega, by omega⟩, ?_⟩⟩
  · rw [h]; rfl
  · rw [h]; rfl
theorem ok138 : Ok Tryz.prog 138 cStepAt := ok_of_wp mixed g87 (by kernel_rfl) (by kernel_rfl) na fun xx => wp138 xx.1 xx.2.1 xx.2.2.1
abbrev G88 : Gam := (138, cStepAt) :: G87
theorem g88 : GamOk Tryz.prog G88 := .cons ok138 g87
def stepsGo : List (Int × Int) → Int × Int → List StT
  | [], _ => []
  | x :: r, last => (x, last.2, last.1) :: stepsGo r x
def stepsS (fr : Int) (l : List (Int × Int)) : List StT := stepsGo l (0, fr)
def cSteps : Con := { args := [aI, aL 172], ress := [(false, .list 211 sSt)], owns := [true], pre := fun (_, l, _) => [l.length ≤ 1000], spec := fun (fr, l, _) => (stepsS fr l, ()) }
abbrev annSteps (fr : Int) (l : List (Int × Int)) : Ann := { X := Nat × (Int × Int) × List StT, σ := fun (k, q, o) => ⟨3, [(5, .one (.sl 2)), (6, .one (.ptr 1 0)), (11, .one (.sl 0)), (12, .one (.int .i64 l.length)), (13, .one (.int .i64 k))], [(0, .imm 172 sPt l), (1, .box 172 [.int .i64 q.1, .int .i64 q.2]), (2, .own 211 sSt o)]⟩, inv := fun (k, q, o) => k ≤ l.length ∧ l.length ≤ 1000 ∧ o.length = k ∧ stepsS fr l = o ++ stepsGo (l.drop k) q, mu := fun (k, _) => l.length - k }
theorem vc133 : ∀ (fr : Int) (l : List (Int × Int)), wpF Tryz.prog G88 (ann0 (annSteps fr l)) Tryz.f133 cSteps (fr, l, ()) = (List.length l ≤ (1000 : Nat) → ∃ (x : Nat × (Int × Int) × List ((Int × Int) × Int × Int)), ((↑(List.length l) : Int) = (↑(List.length l) : Int) ∧ (0 : Int) = (↑x.1 : Int) ∧ l = l ∧ (0 : Int) = x.2.1.fst ∧ fr = x.2.1.snd ∧ List.length x.2.2 = (0 : Nat)) ∧ (x.fst ≤ List.length l ∧ List.length l ≤ (1000 : Nat) ∧ List.length x.2.snd = x.fst ∧ stepsS fr l = x.2.snd ++ stepsGo (List.drop x.fst l) x.2.fst) ∧ ∀ (x : Nat × (Int × Int) × List StT), x.fst ≤ List.length l ∧ List.length l ≤ (1000 : Nat) ∧ List.length x.2.snd = x.fst ∧ stepsS fr l = x.2.snd ++ stepsGo (List.drop x.fst l) x.2.fst → (decide ((↑x.1 : Int) < (↑(List.length l) : Int)) = true → (((0 : Int) ≤ (↑x.1 : Int) ∧ (↑x.1 : Int) < (↑(List.length l) : Int)) ∧ (0 : Int) ≤ (↑x.1 : Int) ∧ (↑x.1 : Int) < (↑(List.length l) : Int)) ∧ (List.length x.2.2 + (1 : Nat)) * (32 : Nat) ≤ (140737488355328 : Nat) ∧ ((-9223372036854775808 : Int) ≤ (↑x.1 : Int) + (1 : Int) ∧ (↑x.1 : Int) + (1 : Int) ≤ (9223372036854775807 : Int)) ∧ ∃ (y : Nat × (Int × Int) × List ((Int × Int) × Int × Int)), ((↑(List.length l) : Int) = (↑(List.length l) : Int) ∧ (↑x.1 : Int) + (1 : Int) = (↑y.1 : Int) ∧ l = l ∧ (List.getD l x.1 ((0 : Int), (0 : Int))).fst = y.2.1.fst ∧ (List.getD l x.1 ((0 : Int), (0 : Int))).snd = y.2.1.snd ∧ x.2.2 ++ [(((List.getD l x.1 ((0 : Int), (0 : Int))).fst, (List.getD l x.1 ((0 : Int), (0 : Int))).snd), x.2.1.snd, x.2.1.fst)] = y.2.2) ∧ (y.fst ≤ List.length l ∧ List.length l ≤ (1000 : Nat) ∧ List.length y.2.snd = y.fst ∧ stepsS fr l = y.2.snd ++ stepsGo (List.drop y.fst l) y.2.fst) ∧ List.length l - y.fst < List.length l - x.fst) ∧ (decide ((↑x.1 : Int) < (↑(List.length l) : Int)) = false → x.2.2 = stepsS fr l)) := by
  intros
  kernel_rfl
theorem wp133 (fr : Int) (l : List (Int × Int)) : wpF Tryz.prog G88 (ann0 (annSteps fr l)) Tryz.f133 cSteps (fr, l, ()) := by
  refine (vc133 fr l).mpr ?_
  intro hb
  refine ⟨(0, (0, fr), []), by simp, ⟨Nat.zero_le _, hb, rfl, rfl⟩, fun (y : Nat × (Int × Int) × List StT) hy => ⟨fun h => ?_, fun h => ?_⟩⟩
  · obtain ⟨k, q, o⟩ := y
    obtain ⟨i1, i2, i3, i4⟩ := hy
    dsimp only at i1 i3 i4 ⊢
    have hlt : k < l.length := by simpa using h
    have hd : stepsGo (l.drop k) q = (l.getD k (0, 0), q.2, q.1) :: stepsGo (l.drop (k + 1)) (l.getD k (0, 0)) := by
      have e1 : l.getD k (0, 0) = l[k] := by simp [List.getD_eq_getElem?_getD, hlt]
      rw [List.drop_eq_getElem_cons hlt, e1]; rfl
    refine ⟨⟨⟨by omega, by omega⟩, by omega, by omega⟩, by omega, ⟨by omega, by omega⟩, (k + 1, l.getD k (0, 0), o ++ [(l.getD k (0, 0), q.2, q.1)]), ⟨rfl, by simp, rfl, rfl, rfl, rfl⟩, ⟨by show k + 1 ≤ l.length; omega, i2, by simp [i3], ?_⟩, by show l.length - (k + 1) < l.length - k; omega⟩
    rw [i4, hd]; simp
  · obtain ⟨k, q, o⟩ := y
    obtain ⟨i1, i2, i3, i4⟩ := hy
    dsimp only at i1 i3 i4 ⊢
    have hlt : ¬ k < l.length := by simpa using h
    have e : k = l.length := by omega
    rw [i4, e, List.drop_length]; simp [stepsGo]
theorem ok133 : Ok Tryz.prog 133 cSteps := ok_of_wp mixed g88 (by kernel_rfl) (by kernel_rfl) (fun xx => ann0 (annSteps xx.1 xx.2.1)) fun xx => wp133 xx.1 xx.2.1
abbrev G89 : Gam := (133, cSteps) :: G88
theorem g89 : GamOk Tryz.prog G89 := .cons ok133 g88
abbrev cIdxSteps : Con := { args := [.val false (.list 211 sSt), .fn [(true, sSt)] Bo], ress := [I], owns := [], pre := fun (l, (q, _), _) => [l.length ≤ 1000000, ∀ x ∈ l, conj (q (x, ()))], spec := fun (l, (_, f), _) => (idxS (fun x => f (x, ())) l 0, ()) }
theorem vc132 : ∀ (l : List StT) (q : StT × Unit → List Prop) (f : StT × Unit → Bool), wpF Tryz.prog G89 (ann0 (annIdx (211 : TypeId) sSt l [(true, sSt)] Bo q f fun (k : Nat) => idxS (fun (x : StT) => f (x, ())) l (0 : Int) = idxS (fun (x : StT) => f (x, ())) (List.drop k l) (↑k : Int))) Tryz.f132 cIdxSteps (l, (q, f), ()) = (List.length l ≤ (1000000 : Nat) → (∀ (x : (Int × Int) × Int × Int), x ∈ l → conj (q (x, PUnit.unit))) → ∃ (x : Nat), ((↑(List.length l) : Int) = (↑(List.length l) : Int) ∧ (0 : Int) = (↑x : Int) ∧ l = l ∧ (fun (x : ((Int × Int) × Int × Int) × PUnit) => q x) = q ∧ (fun (x : ((Int × Int) × Int × Int) × PUnit) => f x) = f) ∧ (x ≤ List.length l ∧ idxS (fun (x : StT) => f (x, PUnit.unit)) l (0 : Int) = idxS (fun (x : StT) => f (x, PUnit.unit)) (List.drop x l) (↑x : Int)) ∧ ∀ (x : Nat), x ≤ List.length l ∧ idxS (fun (x : StT) => f (x, PUnit.unit)) l (0 : Int) = idxS (fun (x : StT) => f (x, PUnit.unit)) (List.drop x l) (↑x : Int) → (decide ((↑x : Int) < (↑(List.length l) : Int)) = true → (((0 : Int) ≤ (↑x : Int) ∧ (↑x : Int) < (↑(List.length l) : Int)) ∧ ((0 : Int) ≤ (↑x : Int) ∧ (↑x : Int) < (↑(List.length l) : Int)) ∧ conj (q ((((List.getD l x (((0 : Int), (0 : Int)), (0 : Int), (0 : Int))).fst.fst, (List.getD l x (((0 : Int), (0 : Int)), (0 : Int), (0 : Int))).fst.snd), (List.getD l x (((0 : Int), (0 : Int)), (0 : Int), (0 : Int))).snd.fst, (List.getD l x (((0 : Int), (0 : Int)), (0 : Int), (0 : Int))).snd.snd), PUnit.unit))) ∧ (f ((((List.getD l x (((0 : Int), (0 : Int)), (0 : Int), (0 : Int))).fst.fst, (List.getD l x (((0 : Int), (0 : Int)), (0 : Int), (0 : Int))).fst.snd), (List.getD l x (((0 : Int), (0 : Int)), (0 : Int), (0 : Int))).snd.fst, (List.getD l x (((0 : Int), (0 : Int)), (0 : Int), (0 : Int))).snd.snd), PUnit.unit) = true → (↑x : Int) = idxS (fun (x : (Int × Int) × Int × Int) => f (x, PUnit.unit)) l (0 : Int)) ∧ (f ((((List.getD l x (((0 : Int), (0 : Int)), (0 : Int), (0 : Int))).fst.fst, (List.getD l x (((0 : Int), (0 : Int)), (0 : Int), (0 : Int))).fst.snd), (List.getD l x (((0 : Int), (0 : Int)), (0 : Int), (0 : Int))).snd.fst, (List.getD l x (((0 : Int), (0 : Int)), (0 : Int), (0 : Int))).snd.snd), PUnit.unit) = false → ((-9223372036854775808 : Int) ≤ (↑x : Int) + (1 : Int) ∧ (↑x : Int) + (1 : Int) ≤ (9223372036854775807 : Int)) ∧ ∃ (y : Nat), ((↑(List.length l) : Int) = (↑(List.length l) : Int) ∧ (↑x : Int) + (1 : Int) = (↑y : Int) ∧ l = l ∧ (fun (x : ((Int × Int) × Int × Int) × PUnit) => q x) = q ∧ (fun (x : ((Int × Int) × Int × Int) × PUnit) => f x) = f) ∧ (y ≤ List.length l ∧ idxS (fun (x : StT) => f (x, PUnit.unit)) l (0 : Int) = idxS (fun (x : StT) => f (x, PUnit.unit)) (List.drop y l) (↑y : Int)) ∧ List.length l - y < List.length l - x)) ∧ (decide ((↑x : Int) < (↑(List.length l) : Int)) = false → (-1 : Int) = idxS (fun (x : (Int × Int) × Int × Int) => f (x, PUnit.unit)) l (0 : Int))) := by
  intros
  kernel_rfl
theorem wp132 (l : List StT) (q : StT × Unit → List Prop) (f : StT × Unit → Bool) : wpF Tryz.prog G89 (ann0 (annIdx 211 sSt l [(true, sSt)] Bo q f fun k => idxS (fun x => f (x, ())) l 0 = idxS (fun x => f (x, ())) (l.drop k) k)) Tryz.f132 cIdxSteps (l, (q, f), ()) := by
  refine (vc132 l q f).mpr ?_
  intro hb hq
  refine ⟨(0 : Nat), ⟨rfl, rfl, rfl, rfl, rfl⟩, ⟨Nat.zero_le _, rfl⟩, fun (k : Nat) hk => ⟨fun h => ?_, fun h => ?_⟩⟩
  · have hlt : k < l.length := by simpa using h
    have hd := idxS_drop (f := fun x => f (x, ())) (d := ((0, 0), 0, 0)) hlt
    refine ⟨⟨by omega, by omega, hq _ (getD_mem hlt)⟩, fun h1 => ?_, fun h1 => ⟨by omega, (k + 1 : Nat), ⟨rfl, by simp, rfl, rfl, rfl⟩, ⟨by omega, ?_⟩, by omega⟩⟩
    · rw [hk.2, hd, if_pos h1]
    · rw [hk.2, hd, if_neg (by rw [show f (l.getD k ((0, 0), 0, 0), ()) = false from h1]; simp)]
  · have hlt : ¬ k < l.length := by simpa using h
    have : k = l.length := by omega
    rw [hk.2, this, List.drop_length]; rfl
theorem ok132 : Ok Tryz.prog 132 cIdxSteps := ok_of_wp mixed g89 (by kernel_rfl) (by kernel_rfl) (fun xx => ann0 (annIdx 211 sSt xx.1 [(true, sSt)] Bo xx.2.1.1 xx.2.1.2 fun k => idxS (fun x => xx.2.1.2 (x, ())) xx.1 0 = idxS (fun x => xx.2.1.2 (x, ())) (xx.1.drop k) k)) fun xx => wp132 xx.1 xx.2.1.1 xx.2.1.2
abbrev G90 : Gam := (132, cIdxSteps) :: G89
theorem g90 : GamOk Tryz.prog G90 := .cons ok132 g89
def cMapSteps : Con := { args := [.val false (.list 211 sSt), .fn [(true, sSt)] I], ress := [(false, .list 26 sI)], owns := [true], pre := fun (l, (q, _), _) => [l.length ≤ 1000000, ∀ x ∈ l, conj (q (x, ()))], spec := fun (l, (_, f), _) => (l.map fun x => f (x, ()), ()) }
theorem vc136 : ∀ (l : List StT) (q : StT × Unit → List Prop) (f : StT × Unit → Int), wpF Tryz.prog G90 (ann0 (annMap (211 : TypeId) (26 : TypeId) sSt l I true q f)) Tryz.f136 cMapSteps (l, (q, f), ()) = (List.length l ≤ (1000000 : Nat) → (∀ (x : (Int × Int) × Int × Int), x ∈ l → conj (q (x, PUnit.unit))) → ∃ (x : Nat), ((↑(List.length l) : Int) = (↑(List.length l) : Int) ∧ (0 : Int) = (↑x : Int) ∧ l = l ∧ (fun (x : ((Int × Int) × Int × Int) × PUnit) => q x) = q ∧ (fun (x : ((Int × Int) × Int × Int) × PUnit) => f x) = f ∧ List.length (List.map (fun (x : (Int × Int) × Int × Int) => f (x, PUnit.unit)) (List.take x l)) = (0 : Nat)) ∧ x ≤ List.length l ∧ ∀ (x : Nat), x ≤ List.length l → (decide ((↑x : Int) < (↑(List.length l) : Int)) = true → (((0 : Int) ≤ (↑x : Int) ∧ (↑x : Int) < (↑(List.length l) : Int)) ∧ (0 : Int) ≤ (↑x : Int) ∧ (↑x : Int) < (↑(List.length l) : Int)) ∧ (conj (q ((((List.getD l x (((0 : Int), (0 : Int)), (0 : Int), (0 : Int))).fst.fst, (List.getD l x (((0 : Int), (0 : Int)), (0 : Int), (0 : Int))).fst.snd), (List.getD l x (((0 : Int), (0 : Int)), (0 : Int), (0 : Int))).snd.fst, (List.getD l x (((0 : Int), (0 : Int)), (0 : Int), (0 : Int))).snd.snd), PUnit.unit)) ∧ (List.length (List.map (fun (x : (Int × Int) × Int × Int) => f (x, PUnit.unit)) (List.take x l)) + (1 : Nat)) * (8 : Nat) ≤ (140737488355328 : Nat)) ∧ ((-9223372036854775808 : Int) ≤ (↑x : Int) + (1 : Int) ∧ (↑x : Int) + (1 : Int) ≤ (9223372036854775807 : Int)) ∧ ∃ (y : Nat), ((↑(List.length l) : Int) = (↑(List.length l) : Int) ∧ (↑x : Int) + (1 : Int) = (↑y : Int) ∧ l = l ∧ (fun (x : ((Int × Int) × Int × Int) × PUnit) => q x) = q ∧ (fun (x : ((Int × Int) × Int × Int) × PUnit) => f x) = f ∧ List.map (fun (x : (Int × Int) × Int × Int) => f (x, PUnit.unit)) (List.take x l) ++ [f ((((List.getD l x (((0 : Int), (0 : Int)), (0 : Int), (0 : Int))).fst.fst, (List.getD l x (((0 : Int), (0 : Int)), (0 : Int), (0 : Int))).fst.snd), (List.getD l x (((0 : Int), (0 : Int)), (0 : Int), (0 : Int))).snd.fst, (List.getD l x (((0 : Int), (0 : Int)), (0 : Int), (0 : Int))).snd.snd), PUnit.unit)] = List.map (fun (x : (Int × Int) × Int × Int) => f (x, PUnit.unit)) (List.take y l)) ∧ y ≤ List.length l ∧ List.length l - y < List.length l - x) ∧ (decide ((↑x : Int) < (↑(List.length l) : Int)) = false → List.map (fun (x : (Int × Int) × Int × Int) => f (x, PUnit.unit)) (List.take x l) = List.map (fun (x : (Int × Int) × Int × Int) => f (x, PUnit.unit)) l)) := by
  intros
  kernel_rfl
theorem wp136 (l : List StT) (q : StT × Unit → List Prop) (f : StT × Unit → Int) : wpF Tryz.prog G90 (ann0 (annMap 211 26 sSt l I true q f)) Tryz.f136 cMapSteps (l, (q, f), ()) := by
  refine (vc136 l q f).mpr ?_
  intro hb hq
  refine ⟨(0 : Nat), ⟨rfl, rfl, rfl, rfl, rfl, by simp⟩, Nat.zero_le _, fun (k : Nat) hk => ⟨fun h => ?_, fun h => ?_⟩⟩
  · have hlt : k < l.length := by simpa using h
    refine ⟨by omega, ⟨hq (l.getD k ((0, 0), 0, 0)) (getD_mem hlt), by simp only [List.length_map, List.length_take]; omega⟩, by omega, (k + 1 : Nat), ⟨rfl, by simp, rfl, rfl, rfl, ?_⟩, by omega, by omega⟩
    rw [← take_snoc (d := ((0, 0), 0, 0)) hlt, List.map_append]; rfl
  · have hlt : ¬ k < l.length := by simpa using h
    rw [List.take_of_length_le (by omega)]
theorem ok136 : Ok Tryz.prog 136 cMapSteps := ok_of_wp mixed g90 (by kernel_rfl) (by kernel_rfl) (fun xx => ann0 (annMap 211 26 sSt xx.1 I true xx.2.1.1 xx.2.1.2)) fun xx => wp136 xx.1 xx.2.1.1 xx.2.1.2
abbrev G91 : Gam := (136, cMapSteps) :: G90
theorem g91 : GamOk Tryz.prog G91 := .cons ok136 g90

theorem ordersGo_zero {l : List (Int × Int)} (h : ordersGo l (-1) = 0) : ∀ k, k ≤ l.length → ordersGo (l.drop k) (lastTick l k) = 0
  | 0, _ => by simpa [lastTick] using h
  | k + 1, hk => by
    have ih := ordersGo_zero h k (by omega)
    rw [ordersGo_drop (by omega)] at ih
    simp only at ih
    split at ih
    · rename_i h1; exact absurd ih h1
    · exact ih
theorem order_at {l : List (Int × Int)} (h : ordersS l = 0) {k : Nat} (hk : k < l.length) : (0 ≤ (l.getD k (0, 0)).1 ∧ (l.getD k (0, 0)).1 ≤ 100000) ∧ (-1000 ≤ (l.getD k (0, 0)).2 ∧ (l.getD k (0, 0)).2 ≤ 1000) ∧ lastTick l k < (l.getD k (0, 0)).1 := by
  have hg : ordersGo l (-1) = 0 := by
    unfold ordersS at h
    split at h
    · simp at h
    · exact h
  have h0 := ordersGo_zero hg k (by omega)
  rw [ordersGo_drop hk] at h0
  simp only at h0
  split at h0
  · rename_i h1; exact absurd h0 h1
  · rename_i h1
    have h1' := Decidable.not_not.1 h1
    rw [firstS_zero, firstS_zero, firstS_zero] at h1'
    have w1 := withinS_zero h1'.1
    have w2 := withinS_zero h1'.2.1
    have h3 := h1'.2.2.1
    refine ⟨w1, w2, ?_⟩
    by_cases h4 : (l.getD k (0, 0)).1 ≤ lastTick l k
    · rw [decide_eq_true h4] at h3; simp at h3
    · omega
theorem orders_len {l : List (Int × Int)} (h : ordersS l = 0) : l.length ≤ 32 := by
  unfold ordersS at h
  split at h
  · simp at h
  · omega
def ordOk (x : Int × Int) : Prop := (0 ≤ x.1 ∧ x.1 ≤ 100000) ∧ -1000 ≤ x.2 ∧ x.2 ≤ 1000
theorem orders_all {l : List (Int × Int)} (h : ordersS l = 0) : ∀ x ∈ l, ordOk x := fun x hx => by
  obtain ⟨k, hk, rfl⟩ := List.getElem_of_mem hx
  have := order_at h hk
  have e1 : l.getD k (0, 0) = l[k] := by simp [List.getD_eq_getElem?_getD, hk]
  rw [e1] at this
  exact ⟨this.1, this.2.1⟩
theorem steps_ok : ∀ {l : List (Int × Int)} {q : Int × Int}, (∀ x ∈ l, ordOk x) → ordOk q → ∀ s ∈ stepsGo l q, stepOk s
  | [], _, _, _, s, hs => by simp [stepsGo] at hs
  | x :: r, q, h, hq, s, hs => by
    simp only [stepsGo, List.mem_cons] at hs
    rcases hs with rfl | hs
    · have hx := h x (by simp)
      exact ⟨hx.1, hx.2, hq.2, hq.1⟩
    · exact steps_ok (fun y hy => h y (by simp [hy])) (h x (by simp)) s hs
theorem steps_len : ∀ {l : List (Int × Int)} {q : Int × Int}, (stepsGo l q).length = l.length
  | [], _ => rfl
  | x :: r, q => by simp [stepsGo, steps_len (l := r)]
theorem rampE_zero {x : Int × Int × Int} {fr : Int} {l : List (Int × Int)} (h : rampE x fr l = 0) : ruleOk x ∧ ordersS l = 0 ∧ ordOk (0, fr) ∧ (∀ s ∈ stepsS fr l, stepOk s) ∧ (stepsS fr l).length = l.length ∧ l.length ≤ 32 := by
  unfold rampE at h
  rw [firstS_zero, firstS_zero, firstS_zero] at h
  obtain ⟨h1, h2, h3, _⟩ := h
  unfold rulesS at h1
  rw [firstS_zero, firstS_zero, firstS_zero] at h1
  have w1 := withinS_zero h1.1
  have w2 := withinS_zero h1.2.1
  have w3 := withinS_zero h1.2.2.1
  have w4 := withinS_zero h2
  have hq : ordOk (0, fr) := ⟨⟨by show (0 : Int) ≤ 0; decide, by show (0 : Int) ≤ 100000; decide⟩, by show -1000 ≤ fr; omega, by show fr ≤ 1000; omega⟩
  exact ⟨⟨w1, w2, w3⟩, h3, hq, steps_ok (orders_all h3) hq, steps_len, orders_len h3⟩
def refIdx (x : Int × Int × Int) (fr : Int) (l : List (Int × Int)) : Int := idxS (fun s => refusedS x s != 0) (stepsS fr l) 0
def cXRefused : Con := { args := [a3, aI, aL 172], ress := [I, Bo, I], owns := [], pre := fun _ => [], spec := fun (x, fr, l, _) => (if rampE x fr l = 0 then max 0 (refIdx x fr l) else 0, if rampE x fr l = 0 then decide (0 ≤ refIdx x fr l) else false, rampE x fr l, ()) }
theorem vc60 : ∀ (x : Int × Int × Int) (fr : Int) (l : List (Int × Int)), wpF Tryz.prog G91 (na ()) Tryz.f60 cXRefused (x, fr, l, ()) = (((rampE (x.fst, x.snd.fst, x.snd.snd) fr l != (0 : Int)) = true → ((0 : Int) = if rampE x fr l = (0 : Int) then max (0 : Int) (refIdx x fr l) else (0 : Int)) ∧ (false = if rampE x fr l = (0 : Int) then decide ((0 : Int) ≤ refIdx x fr l) else false) ∧ rampE (x.fst, x.snd.fst, x.snd.snd) fr l = rampE x fr l) ∧ ((rampE (x.fst, x.snd.fst, x.snd.snd) fr l != (0 : Int)) = false → (List.length l ≤ (1000 : Nat) ∧ List.length (stepsS fr l) ≤ (1000000 : Nat) ∧ ∀ (x_1 : (Int × Int) × Int × Int), x_1 ∈ stepsS fr l → ruleOk (x.fst, x.snd.fst, x.snd.snd) ∧ stepOk x_1) ∧ (max (0 : Int) (idxS (fun (x_1 : (Int × Int) × Int × Int) => match refusedS (x.fst, x.snd.fst, x.snd.snd) x_1 == (0 : Int) with | true => false | false => true) (stepsS fr l) (0 : Int)) = if rampE x fr l = (0 : Int) then max (0 : Int) (refIdx x fr l) else (0 : Int)) ∧ (decide ((0 : Int) ≤ idxS (fun (x_1 : (Int × Int) × Int × Int) => match refusedS (x.fst, x.snd.fst, x.snd.snd) x_1 == (0 : Int) with | true => false | false => true) (stepsS fr l) (0 : Int)) = if rampE x fr l = (0 : Int) then decide ((0 : Int) ≤ refIdx x fr l) else false) ∧ (0 : Int) = rampE x fr l)) := by
  intros
  kernel_rfl
theorem wp60 (x : Int × Int × Int) (fr : Int) (l : List (Int × Int)) : wpF Tryz.prog G91 (na ()) Tryz.f60 cXRefused (x, fr, l, ()) := by
  refine (vc60 x fr l).mpr ?_
  have hE : rampE (x.1, x.2.1, x.2.2) fr l = rampE x fr l := rfl
  rw [hE]
  refine ⟨fun h => ?_, fun h => ?_⟩
  · have h0 := bne_iff_ne.1 h
    rw [if_neg h0, if_neg h0]; exact ⟨rfl, rfl, rfl⟩
  · have h0 := bne_eq_false_iff_eq.1 h
    obtain ⟨r1, r2, r3, r4, r5, r6⟩ := rampE_zero h0
    rw [if_pos h0, if_pos h0]
    exact ⟨⟨by omega, by omega, fun s hs => ⟨r1, r4 s hs⟩⟩, rfl, rfl, h0.symm⟩
theorem ok60 : Ok Tryz.prog 60 cXRefused := ok_of_wp mixed g91 (by kernel_rfl) (by kernel_rfl) na fun xx => wp60 xx.1 xx.2.1 xx.2.2.1
abbrev G92 : Gam := (60, cXRefused) :: G91
theorem g92 : GamOk Tryz.prog G92 := .cons ok60 g91
def rampTS (x : Int × Int × Int) (fr : Int) (l : List (Int × Int)) (t : Int) : Int :=
  let i := idxS (fun s : StT => decide (t ≤ s.1.1)) (stepsS fr l) 0
  if 0 ≤ i then stepAtS ((stepsS fr l).getD i.toNat ((0, 0), 0, 0)) x.1 t else if 0 < (stepsS fr l).length then ((stepsS fr l).getD ((stepsS fr l).length - 1) ((0, 0), 0, 0)).1.2 else fr
def refE (x : Int × Int × Int) (fr : Int) (l : List (Int × Int)) : Int := firstS ((stepsS fr l).map (refusedS x))
def ticksE (x : Int × Int × Int) (fr : Int) (l : List (Int × Int)) (n : Int) : Int := firstS [rampE x fr l, withinS n 1 256]
def rampL (x : Int × Int × Int) (fr : Int) (l : List (Int × Int)) (k : Nat) : List Int := (List.range k).map fun t : Nat => rampTS x fr l t
theorem rampL_succ {x : Int × Int × Int} {fr : Int} {l : List (Int × Int)} {k : Nat} : rampL x fr l (k + 1) = rampL x fr l k ++ [rampTS x fr l k] := by simp [rampL, List.range_succ]
theorem rampL_len {x : Int × Int × Int} {fr : Int} {l : List (Int × Int)} {k : Nat} : (rampL x fr l k).length = k := by simp [rampL]
def xRampS (x : Int × Int × Int) (fr : Int) (l : List (Int × Int)) (n : Int) : List Int × Int :=
  if ticksE x fr l n ≠ 0 then ([], ticksE x fr l n) else if refE x fr l ≠ 0 then ([], refE x fr l) else (rampL x fr l n.toNat, 0)
def cXRamp : Con := { args := [a3, aI, aL 172, aI], ress := [(false, .list 3 sI), I], owns := [true], pre := fun _ => [], spec := fun (x, fr, l, n, _) => ((xRampS x fr l n).1, (xRampS x fr l n).2, ()) }
abbrev annXRamp (x : Int × Int × Int) (fr : Int) (l : List (Int × Int)) (n : Int) : Ann := { X := Nat, σ := fun k => ⟨4, [(1, .one (.int .i64 fr)), (4, .one (.ptr 1 0)), (11, .one (.sl 2)), (13, .one (.sl 3)), (38, .one (.int .i64 n)), (39, .one (.int .i64 k))], [(1, .box 101 [.int .i64 x.1, .int .i64 x.2.1, .int .i64 x.2.2]), (2, .imm 211 sSt (stepsS fr l)), (3, .own 3 sI (rampL x fr l k))]⟩, inv := fun k => k ≤ n.toNat ∧ ticksE x fr l n = 0 ∧ refE x fr l = 0, mu := fun k => n.toNat - k }
theorem vc61 : ∀ (x : Int × Int × Int) (fr : Int) (l : List (Int × Int)) (n : Int), wpF Tryz.prog G92 (ann0 (annXRamp x fr l n)) Tryz.f61 cXRamp (x, fr, l, n, ()) = ((2 : Nat) ≤ (1000000 : Nat) ∧ ((firstS [rampE (x.fst, x.snd.fst, x.snd.snd) fr l, withinS n (1 : Int) (256 : Int)] != (0 : Int)) = true → [] = (xRampS x fr l n).fst ∧ firstS [rampE (x.fst, x.snd.fst, x.snd.snd) fr l, withinS n (1 : Int) (256 : Int)] = (xRampS x fr l n).snd) ∧ ((firstS [rampE (x.fst, x.snd.fst, x.snd.snd) fr l, withinS n (1 : Int) (256 : Int)] != (0 : Int)) = false → List.length l ≤ (1000 : Nat) ∧ (List.length (stepsS fr l) ≤ (1000000 : Nat) ∧ (∀ (x_1 : (Int × Int) × Int × Int), x_1 ∈ stepsS fr l → ruleOk (x.fst, x.snd.fst, x.snd.snd) ∧ stepOk x_1) ∧ List.length (List.map (fun (x_1 : (Int × Int) × Int × Int) => refusedS (x.fst, x.snd.fst, x.snd.snd) x_1) (stepsS fr l)) ≤ (1000000 : Nat)) ∧ ((firstS (List.map (fun (x_1 : (Int × Int) × Int × Int) => refusedS (x.fst, x.snd.fst, x.snd.snd) x_1) (stepsS fr l)) != (0 : Int)) = true → [] = (xRampS x fr l n).fst ∧ firstS (List.map (fun (x_1 : (Int × Int) × Int × Int) => refusedS (x.fst, x.snd.fst, x.snd.snd) x_1) (stepsS fr l)) = (xRampS x fr l n).snd) ∧ ((firstS (List.map (fun (x_1 : (Int × Int) × Int × Int) => refusedS (x.fst, x.snd.fst, x.snd.snd) x_1) (stepsS fr l)) != (0 : Int)) = false → ∃ (x_1 : Nat), (fr = fr ∧ n = n ∧ (0 : Int) = (↑x_1 : Int) ∧ x.fst = x.fst ∧ x.snd.fst = x.snd.fst ∧ x.snd.snd = x.snd.snd ∧ stepsS fr l = stepsS fr l ∧ List.length (rampL x fr l x_1) = (0 : Nat)) ∧ (x_1 ≤ Int.toNat n ∧ ticksE x fr l n = (0 : Int) ∧ refE x fr l = (0 : Int)) ∧ ∀ (x_2 : Nat), x_2 ≤ Int.toNat n ∧ ticksE x fr l n = (0 : Int) ∧ refE x fr l = (0 : Int) → (decide ((↑x_2 : Int) < n) = true → (List.length (stepsS fr l) ≤ (1000000 : Nat) ∧ ∀ (x : (Int × Int) × Int × Int), x ∈ stepsS fr l → True) ∧ (decide ((0 : Int) ≤ idxS (fun (x : (Int × Int) × Int × Int) => decide ((↑x_2 : Int) ≤ x.fst.fst)) (stepsS fr l) (0 : Int)) = true → (((0 : Int) ≤ idxS (fun (x : (Int × Int) × Int × Int) => decide ((↑x_2 : Int) ≤ x.fst.fst)) (stepsS fr l) (0 : Int) ∧ idxS (fun (x : (Int × Int) × Int × Int) => decide ((↑x_2 : Int) ≤ x.fst.fst)) (stepsS fr l) (0 : Int) < (↑(List.length (stepsS fr l)) : Int)) ∧ ((0 : Int) ≤ idxS (fun (x : (Int × Int) × Int × Int) => decide ((↑x_2 : Int) ≤ x.fst.fst)) (stepsS fr l) (0 : Int) ∧ idxS (fun (x : (Int × Int) × Int × Int) => decide ((↑x_2 : Int) ≤ x.fst.fst)) (stepsS fr l) (0 : Int) < (↑(List.length (stepsS fr l)) : Int)) ∧ stepOk (((List.getD (stepsS fr l) (Int.toNat (idxS (fun (x : (Int × Int) × Int × Int) => decide ((↑x_2 : Int) ≤ x.fst.fst)) (stepsS fr l) (0 : Int))) (((0 : Int), (0 : Int)), (0 : Int), (0 : Int))).fst.fst, (List.getD (stepsS fr l) (Int.toNat (idxS (fun (x : (Int × Int) × Int × Int) => decide ((↑x_2 : Int) ≤ x.fst.fst)) (stepsS fr l) (0 : Int))) (((0 : Int), (0 : Int)), (0 : Int), (0 : Int))).fst.snd), (List.getD (stepsS fr l) (Int.toNat (idxS (fun (x : (Int × Int) × Int × Int) => decide ((↑x_2 : Int) ≤ x.fst.fst)) (stepsS fr l) (0 : Int))) (((0 : Int), (0 : Int)), (0 : Int), (0 : Int))).snd.fst, (List.getD (stepsS fr l) (Int.toNat (idxS (fun (x : (Int × Int) × Int × Int) => decide ((↑x_2 : Int) ≤ x.fst.fst)) (stepsS fr l) (0 : Int))) (((0 : Int), (0 : Int)), (0 : Int), (0 : Int))).snd.snd) ∧ ((1 : Int) ≤ x.fst ∧ x.fst ≤ (1000 : Int)) ∧ ((0 : Int) ≤ (↑x_2 : Int) ∧ (↑x_2 : Int) ≤ (100000 : Int)) ∧ (List.length (rampL x fr l x_2) + (1 : Nat)) * (8 : Nat) ≤ (140737488355328 : Nat)) ∧ ((-9223372036854775808 : Int) ≤ (↑x_2 : Int) + (1 : Int) ∧ (↑x_2 : Int) + (1 : Int) ≤ (9223372036854775807 : Int)) ∧ ∃ (y : Nat), (fr = fr ∧ n = n ∧ (↑x_2 : Int) + (1 : Int) = (↑y : Int) ∧ x.fst = x.fst ∧ x.snd.fst = x.snd.fst ∧ x.snd.snd = x.snd.snd ∧ stepsS fr l = stepsS fr l ∧ rampL x fr l x_2 ++ [stepAtS (((List.getD (stepsS fr l) (Int.toNat (idxS (fun (x : (Int × Int) × Int × Int) => decide ((↑x_2 : Int) ≤ x.fst.fst)) (stepsS fr l) (0 : Int))) (((0 : Int), (0 : Int)), (0 : Int), (0 : Int))).fst.fst, (List.getD (stepsS fr l) (Int.toNat (idxS (fun (x : (Int × Int) × Int × Int) => decide ((↑x_2 : Int) ≤ x.fst.fst)) (stepsS fr l) (0 : Int))) (((0 : Int), (0 : Int)), (0 : Int), (0 : Int))).fst.snd), (List.getD (stepsS fr l) (Int.toNat (idxS (fun (x : (Int × Int) × Int × Int) => decide ((↑x_2 : Int) ≤ x.fst.fst)) (stepsS fr l) (0 : Int))) (((0 : Int), (0 : Int)), (0 : Int), (0 : Int))).snd.fst, (List.getD (stepsS fr l) (Int.toNat (idxS (fun (x : (Int × Int) × Int × Int) => decide ((↑x_2 : Int) ≤ x.fst.fst)) (stepsS fr l) (0 : Int))) (((0 : Int), (0 : Int)), (0 : Int), (0 : Int))).snd.snd) x.fst (↑x_2 : Int)] = rampL x fr l y) ∧ (y ≤ Int.toNat n ∧ ticksE x fr l n = (0 : Int) ∧ refE x fr l = (0 : Int)) ∧ Int.toNat n - y < Int.toNat n - x_2) ∧ (decide ((0 : Int) ≤ idxS (fun (x : (Int × Int) × Int × Int) => decide ((↑x_2 : Int) ≤ x.fst.fst)) (stepsS fr l) (0 : Int)) = false → (decide ((0 : Int) < (↑(List.length (stepsS fr l)) : Int)) = true → (((-9223372036854775808 : Int) ≤ (↑(List.length (stepsS fr l)) : Int) - (1 : Int) ∧ (↑(List.length (stepsS fr l)) : Int) - (1 : Int) ≤ (9223372036854775807 : Int)) ∧ ((0 : Int) ≤ (↑(List.length (stepsS fr l)) : Int) - (1 : Int) ∧ (↑(List.length (stepsS fr l)) : Int) - (1 : Int) < (↑(List.length (stepsS fr l)) : Int)) ∧ ((0 : Int) ≤ (↑(List.length (stepsS fr l)) : Int) - (1 : Int) ∧ (↑(List.length (stepsS fr l)) : Int) - (1 : Int) < (↑(List.length (stepsS fr l)) : Int)) ∧ (List.length (rampL x fr l x_2) + (1 : Nat)) * (8 : Nat) ≤ (140737488355328 : Nat)) ∧ ((-9223372036854775808 : Int) ≤ (↑x_2 : Int) + (1 : Int) ∧ (↑x_2 : Int) + (1 : Int) ≤ (9223372036854775807 : Int)) ∧ ∃ (y : Nat), (fr = fr ∧ n = n ∧ (↑x_2 : Int) + (1 : Int) = (↑y : Int) ∧ x.fst = x.fst ∧ x.snd.fst = x.snd.fst ∧ x.snd.snd = x.snd.snd ∧ stepsS fr l = stepsS fr l ∧ rampL x fr l x_2 ++ [(List.getD (stepsS fr l) (Int.toNat ((↑(List.length (stepsS fr l)) : Int) - (1 : Int))) (((0 : Int), (0 : Int)), (0 : Int), (0 : Int))).fst.snd] = rampL x fr l y) ∧ (y ≤ Int.toNat n ∧ ticksE x fr l n = (0 : Int) ∧ refE x fr l = (0 : Int)) ∧ Int.toNat n - y < Int.toNat n - x_2) ∧ (decide ((0 : Int) < (↑(List.length (stepsS fr l)) : Int)) = false → (List.length (rampL x fr l x_2) + (1 : Nat)) * (8 : Nat) ≤ (140737488355328 : Nat) ∧ ((-9223372036854775808 : Int) ≤ (↑x_2 : Int) + (1 : Int) ∧ (↑x_2 : Int) + (1 : Int) ≤ (9223372036854775807 : Int)) ∧ ∃ (y : Nat), (fr = fr ∧ n = n ∧ (↑x_2 : Int) + (1 : Int) = (↑y : Int) ∧ x.fst = x.fst ∧ x.snd.fst = x.snd.fst ∧ x.snd.snd = x.snd.snd ∧ stepsS fr l = stepsS fr l ∧ rampL x fr l x_2 ++ [fr] = rampL x fr l y) ∧ (y ≤ Int.toNat n ∧ ticksE x fr l n = (0 : Int) ∧ refE x fr l = (0 : Int)) ∧ Int.toNat n - y < Int.toNat n - x_2))) ∧ (decide ((↑x_2 : Int) < n) = false → rampL x fr l x_2 = (xRampS x fr l n).fst ∧ (0 : Int) = (xRampS x fr l n).snd)))) := by
  intros
  kernel_rfl
theorem wp61 (x : Int × Int × Int) (fr : Int) (l : List (Int × Int)) (n : Int) : wpF Tryz.prog G92 (ann0 (annXRamp x fr l n)) Tryz.f61 cXRamp (x, fr, l, n, ()) := by
  refine (vc61 x fr l n).mpr ?_
  have hE : firstS [rampE (x.1, x.2.1, x.2.2) fr l, withinS n 1 256] = ticksE x fr l n := rfl
  rw [hE]
  refine ⟨by omega, fun h => ?_, fun h => ?_⟩
  · have h0 := bne_iff_ne.1 h
    simp [xRampS, h0]
  · have h0 := bne_eq_false_iff_eq.1 h
    have h0' := h0
    unfold ticksE at h0'
    rw [firstS_zero, firstS_zero] at h0'
    obtain ⟨r1, r2, r3, r4, r5, r6⟩ := rampE_zero h0'.1
    have hn := withinS_zero h0'.2.1
    have hR : firstS ((stepsS fr l).map fun s => refusedS (x.1, x.2.1, x.2.2) s) = refE x fr l := rfl
    rw [hR]
    refine ⟨by omega, ⟨by omega, fun s hs => ⟨r1, r4 s hs⟩, by rw [List.length_map]; omega⟩, fun h1 => ?_, fun h1 => ?_⟩
    · have h1' := bne_iff_ne.1 h1
      simp [xRampS, h0, h1']
    · have h1' := bne_eq_false_iff_eq.1 h1
      refine ⟨(0 : Nat), by simp [rampL], ⟨Nat.zero_le _, h0, h1'⟩, fun (k : Nat) hk => ⟨fun h => ?_, fun h => ?_⟩⟩
      · have hlt : (k : Int) < n := of_decide_eq_true h
        have hb := idxS_bd (f := fun s : StT => decide ((k : Int) ≤ s.1.1)) (l := stepsS fr l) (k := 0)
        have hT : rampTS x fr l k = (let i := idxS (fun s : StT => decide ((k : Int) ≤ s.1.1)) (stepsS fr l) 0
            if 0 ≤ i then stepAtS ((stepsS fr l).getD i.toNat ((0, 0), 0, 0)) x.1 k else if 0 < (stepsS fr l).length then ((stepsS fr l).getD ((stepsS fr l).length - 1) ((0, 0), 0, 0)).1.2 else fr) := rfl
        have hx1 := r1.1
        rw [rampL_len]
        generalize idxS (fun s : StT => decide ((k : Int) ≤ s.1.1)) (stepsS fr l) 0 = i at *
        change i = -1 ∨ (0 : Int) ≤ i ∧ i < 0 + ((stepsS fr l).length : Int) at hb
        refine ⟨⟨by omega, fun _ _ => trivial⟩, fun h2 => ?_, fun h2 => ⟨fun h3 => ?_, fun h3 => ?_⟩⟩
        · have h2' := of_decide_eq_true h2
          rw [if_pos h2'] at hT
          refine ⟨⟨⟨by omega, by omega⟩, ⟨by omega, by omega⟩, r4 _ (getD_mem (by omega)), hx1, ⟨by omega, by omega⟩, by omega⟩, ⟨by omega, by omega⟩, (k + 1 : Nat), ⟨rfl, rfl, by simp, rfl, rfl, rfl, rfl, ?_⟩, ⟨by omega, h0, h1'⟩, by omega⟩
          rw [rampL_succ, hT]
        · have h2' := of_decide_eq_false h2
          have h3' : 0 < (stepsS fr l).length := by have := of_decide_eq_true h3; omega
          rw [if_neg h2', if_pos h3'] at hT
          have ek : (((stepsS fr l).length : Int) - 1).toNat = (stepsS fr l).length - 1 := by omega
          refine ⟨⟨⟨by omega, by omega⟩, ⟨by omega, by omega⟩, ⟨by omega, by omega⟩, by omega⟩, ⟨by omega, by omega⟩, (k + 1 : Nat), ⟨rfl, rfl, by simp, rfl, rfl, rfl, rfl, ?_⟩, ⟨by omega, h0, h1'⟩, by omega⟩
          rw [rampL_succ, hT, ek]
        · have h2' := of_decide_eq_false h2
          have h3' : ¬ 0 < (stepsS fr l).length := by have := of_decide_eq_false h3; omega
          rw [if_neg h2', if_neg h3'] at hT
          refine ⟨by omega, ⟨by omega, by omega⟩, (k + 1 : Nat), ⟨rfl, rfl, by simp, rfl, rfl, rfl, rfl, ?_⟩, ⟨by omega, h0, h1'⟩, by omega⟩
          rw [rampL_succ, hT]
      · have hlt := of_decide_eq_false h
        have e : k = n.toNat := by omega
        rw [e]
        simp [xRampS, h0, h1']
theorem ok61 : Ok Tryz.prog 61 cXRamp := ok_of_wp mixed g92 (by kernel_rfl) (by kernel_rfl) (fun xx => ann0 (annXRamp xx.1 xx.2.1 xx.2.2.1 xx.2.2.2.1)) fun xx => wp61 xx.1 xx.2.1 xx.2.2.1 xx.2.2.2.1
abbrev G93 : Gam := (61, cXRamp) :: G92
theorem g93 : GamOk Tryz.prog G93 := .cons ok61 g92
def lateE (x : Int × Int × Int) (fr : Int) (l : List (Int × Int)) (o : Int) : Int := firstS [rampE x fr l, bif decide (o < 0) || decide ((l.length : Int) ≤ o) then 10 else 0]
def xLatestS (x : Int × Int × Int) (fr : Int) (l : List (Int × Int)) (o : Int) : Int × Int :=
  if lateE x fr l o ≠ 0 then (0, lateE x fr l o) else if refE x fr (l.take (o + 1).toNat) ≠ 0 then (0, refE x fr (l.take (o + 1).toNat)) else
    let s := (stepsS fr (l.take (o + 1).toNat)).getD o.toNat ((0, 0), 0, 0)
    (s.1.1 - (changeS s + x.1 - 1).tdiv x.1, 0)
def cXLatest : Con := { args := [a3, aI, aL 172, aI], ress := [I, I], owns := [], pre := fun _ => [], spec := fun (x, fr, l, o, _) => ((xLatestS x fr l o).1, (xLatestS x fr l o).2, ()) }
theorem change_bd {s : StT} (h : stepOk s) : 0 ≤ changeS s ∧ changeS s ≤ 2000 := by
  obtain ⟨h1, h2, h3, h4⟩ := h
  unfold changeS
  omega
theorem vc62 : ∀ (x : Int × Int × Int) (fr : Int) (l : List (Int × Int)) (o : Int), wpF Tryz.prog G93 (na ()) Tryz.f62 cXLatest (x, fr, l, o, ()) = ((2 : Nat) ≤ (1000000 : Nat) ∧ ((firstS [rampE (x.fst, x.snd.fst, x.snd.snd) fr l, bif bif decide (o < (0 : Int)) then true else decide ((↑(List.length l) : Int) ≤ o) then (10 : Int) else (0 : Int)] != (0 : Int)) = true → (0 : Int) = (xLatestS x fr l o).fst ∧ firstS [rampE (x.fst, x.snd.fst, x.snd.snd) fr l, bif bif decide (o < (0 : Int)) then true else decide ((↑(List.length l) : Int) ≤ o) then (10 : Int) else (0 : Int)] = (xLatestS x fr l o).snd) ∧ ((firstS [rampE (x.fst, x.snd.fst, x.snd.snd) fr l, bif bif decide (o < (0 : Int)) then true else decide ((↑(List.length l) : Int) ≤ o) then (10 : Int) else (0 : Int)] != (0 : Int)) = false → (((-9223372036854775808 : Int) ≤ o + (1 : Int) ∧ o + (1 : Int) ≤ (9223372036854775807 : Int)) ∧ ((0 : Int) ≤ (0 : Int) ∧ (0 : Int) ≤ o + (1 : Int) ∧ o + (1 : Int) ≤ (↑(List.length l) : Int)) ∧ List.length (List.take (Int.toNat (o + (1 : Int))) l) ≤ (1000 : Nat)) ∧ (List.length (stepsS fr (List.take (Int.toNat (o + (1 : Int))) l)) ≤ (1000000 : Nat) ∧ (∀ (x_1 : (Int × Int) × Int × Int), x_1 ∈ stepsS fr (List.take (Int.toNat (o + (1 : Int))) l) → ruleOk (x.fst, x.snd.fst, x.snd.snd) ∧ stepOk x_1) ∧ List.length (List.map (fun (x_1 : (Int × Int) × Int × Int) => refusedS (x.fst, x.snd.fst, x.snd.snd) x_1) (stepsS fr (List.take (Int.toNat (o + (1 : Int))) l))) ≤ (1000000 : Nat)) ∧ ((firstS (List.map (fun (x_1 : (Int × Int) × Int × Int) => refusedS (x.fst, x.snd.fst, x.snd.snd) x_1) (stepsS fr (List.take (Int.toNat (o + (1 : Int))) l))) != (0 : Int)) = true → (0 : Int) = (xLatestS x fr l o).fst ∧ firstS (List.map (fun (x_1 : (Int × Int) × Int × Int) => refusedS (x.fst, x.snd.fst, x.snd.snd) x_1) (stepsS fr (List.take (Int.toNat (o + (1 : Int))) l))) = (xLatestS x fr l o).snd) ∧ ((firstS (List.map (fun (x_1 : (Int × Int) × Int × Int) => refusedS (x.fst, x.snd.fst, x.snd.snd) x_1) (stepsS fr (List.take (Int.toNat (o + (1 : Int))) l))) != (0 : Int)) = false → (((0 : Int) ≤ o ∧ o < (↑(List.length (stepsS fr (List.take (Int.toNat (o + (1 : Int))) l))) : Int)) ∧ (0 : Int) ≤ o ∧ o < (↑(List.length (stepsS fr (List.take (Int.toNat (o + (1 : Int))) l))) : Int)) ∧ (stepOk (((List.getD (stepsS fr (List.take (Int.toNat (o + (1 : Int))) l)) (Int.toNat o) (((0 : Int), (0 : Int)), (0 : Int), (0 : Int))).fst.fst, (List.getD (stepsS fr (List.take (Int.toNat (o + (1 : Int))) l)) (Int.toNat o) (((0 : Int), (0 : Int)), (0 : Int), (0 : Int))).fst.snd), (List.getD (stepsS fr (List.take (Int.toNat (o + (1 : Int))) l)) (Int.toNat o) (((0 : Int), (0 : Int)), (0 : Int), (0 : Int))).snd.fst, (List.getD (stepsS fr (List.take (Int.toNat (o + (1 : Int))) l)) (Int.toNat o) (((0 : Int), (0 : Int)), (0 : Int), (0 : Int))).snd.snd) ∧ ((-9223372036854775808 : Int) ≤ changeS (((List.getD (stepsS fr (List.take (Int.toNat (o + (1 : Int))) l)) (Int.toNat o) (((0 : Int), (0 : Int)), (0 : Int), (0 : Int))).fst.fst, (List.getD (stepsS fr (List.take (Int.toNat (o + (1 : Int))) l)) (Int.toNat o) (((0 : Int), (0 : Int)), (0 : Int), (0 : Int))).fst.snd), (List.getD (stepsS fr (List.take (Int.toNat (o + (1 : Int))) l)) (Int.toNat o) (((0 : Int), (0 : Int)), (0 : Int), (0 : Int))).snd.fst, (List.getD (stepsS fr (List.take (Int.toNat (o + (1 : Int))) l)) (Int.toNat o) (((0 : Int), (0 : Int)), (0 : Int), (0 : Int))).snd.snd) + x.fst ∧ changeS (((List.getD (stepsS fr (List.take (Int.toNat (o + (1 : Int))) l)) (Int.toNat o) (((0 : Int), (0 : Int)), (0 : Int), (0 : Int))).fst.fst, (List.getD (stepsS fr (List.take (Int.toNat (o + (1 : Int))) l)) (Int.toNat o) (((0 : Int), (0 : Int)), (0 : Int), (0 : Int))).fst.snd), (List.getD (stepsS fr (List.take (Int.toNat (o + (1 : Int))) l)) (Int.toNat o) (((0 : Int), (0 : Int)), (0 : Int), (0 : Int))).snd.fst, (List.getD (stepsS fr (List.take (Int.toNat (o + (1 : Int))) l)) (Int.toNat o) (((0 : Int), (0 : Int)), (0 : Int), (0 : Int))).snd.snd) + x.fst ≤ (9223372036854775807 : Int)) ∧ ((-9223372036854775808 : Int) ≤ changeS (((List.getD (stepsS fr (List.take (Int.toNat (o + (1 : Int))) l)) (Int.toNat o) (((0 : Int), (0 : Int)), (0 : Int), (0 : Int))).fst.fst, (List.getD (stepsS fr (List.take (Int.toNat (o + (1 : Int))) l)) (Int.toNat o) (((0 : Int), (0 : Int)), (0 : Int), (0 : Int))).fst.snd), (List.getD (stepsS fr (List.take (Int.toNat (o + (1 : Int))) l)) (Int.toNat o) (((0 : Int), (0 : Int)), (0 : Int), (0 : Int))).snd.fst, (List.getD (stepsS fr (List.take (Int.toNat (o + (1 : Int))) l)) (Int.toNat o) (((0 : Int), (0 : Int)), (0 : Int), (0 : Int))).snd.snd) + x.fst - (1 : Int) ∧ changeS (((List.getD (stepsS fr (List.take (Int.toNat (o + (1 : Int))) l)) (Int.toNat o) (((0 : Int), (0 : Int)), (0 : Int), (0 : Int))).fst.fst, (List.getD (stepsS fr (List.take (Int.toNat (o + (1 : Int))) l)) (Int.toNat o) (((0 : Int), (0 : Int)), (0 : Int), (0 : Int))).fst.snd), (List.getD (stepsS fr (List.take (Int.toNat (o + (1 : Int))) l)) (Int.toNat o) (((0 : Int), (0 : Int)), (0 : Int), (0 : Int))).snd.fst, (List.getD (stepsS fr (List.take (Int.toNat (o + (1 : Int))) l)) (Int.toNat o) (((0 : Int), (0 : Int)), (0 : Int), (0 : Int))).snd.snd) + x.fst - (1 : Int) ≤ (9223372036854775807 : Int)) ∧ (x.fst = (0 : Int) → False) ∧ ((-9223372036854775808 : Int) ≤ Int.tdiv (changeS (((List.getD (stepsS fr (List.take (Int.toNat (o + (1 : Int))) l)) (Int.toNat o) (((0 : Int), (0 : Int)), (0 : Int), (0 : Int))).fst.fst, (List.getD (stepsS fr (List.take (Int.toNat (o + (1 : Int))) l)) (Int.toNat o) (((0 : Int), (0 : Int)), (0 : Int), (0 : Int))).fst.snd), (List.getD (stepsS fr (List.take (Int.toNat (o + (1 : Int))) l)) (Int.toNat o) (((0 : Int), (0 : Int)), (0 : Int), (0 : Int))).snd.fst, (List.getD (stepsS fr (List.take (Int.toNat (o + (1 : Int))) l)) (Int.toNat o) (((0 : Int), (0 : Int)), (0 : Int), (0 : Int))).snd.snd) + x.fst - (1 : Int)) x.fst ∧ Int.tdiv (changeS (((List.getD (stepsS fr (List.take (Int.toNat (o + (1 : Int))) l)) (Int.toNat o) (((0 : Int), (0 : Int)), (0 : Int), (0 : Int))).fst.fst, (List.getD (stepsS fr (List.take (Int.toNat (o + (1 : Int))) l)) (Int.toNat o) (((0 : Int), (0 : Int)), (0 : Int), (0 : Int))).fst.snd), (List.getD (stepsS fr (List.take (Int.toNat (o + (1 : Int))) l)) (Int.toNat o) (((0 : Int), (0 : Int)), (0 : Int), (0 : Int))).snd.fst, (List.getD (stepsS fr (List.take (Int.toNat (o + (1 : Int))) l)) (Int.toNat o) (((0 : Int), (0 : Int)), (0 : Int), (0 : Int))).snd.snd) + x.fst - (1 : Int)) x.fst ≤ (9223372036854775807 : Int)) ∧ (-9223372036854775808 : Int) ≤ (List.getD (stepsS fr (List.take (Int.toNat (o + (1 : Int))) l)) (Int.toNat o) (((0 : Int), (0 : Int)), (0 : Int), (0 : Int))).fst.fst - Int.tdiv (changeS (((List.getD (stepsS fr (List.take (Int.toNat (o + (1 : Int))) l)) (Int.toNat o) (((0 : Int), (0 : Int)), (0 : Int), (0 : Int))).fst.fst, (List.getD (stepsS fr (List.take (Int.toNat (o + (1 : Int))) l)) (Int.toNat o) (((0 : Int), (0 : Int)), (0 : Int), (0 : Int))).fst.snd), (List.getD (stepsS fr (List.take (Int.toNat (o + (1 : Int))) l)) (Int.toNat o) (((0 : Int), (0 : Int)), (0 : Int), (0 : Int))).snd.fst, (List.getD (stepsS fr (List.take (Int.toNat (o + (1 : Int))) l)) (Int.toNat o) (((0 : Int), (0 : Int)), (0 : Int), (0 : Int))).snd.snd) + x.fst - (1 : Int)) x.fst ∧ (List.getD (stepsS fr (List.take (Int.toNat (o + (1 : Int))) l)) (Int.toNat o) (((0 : Int), (0 : Int)), (0 : Int), (0 : Int))).fst.fst - Int.tdiv (changeS (((List.getD (stepsS fr (List.take (Int.toNat (o + (1 : Int))) l)) (Int.toNat o) (((0 : Int), (0 : Int)), (0 : Int), (0 : Int))).fst.fst, (List.getD (stepsS fr (List.take (Int.toNat (o + (1 : Int))) l)) (Int.toNat o) (((0 : Int), (0 : Int)), (0 : Int), (0 : Int))).fst.snd), (List.getD (stepsS fr (List.take (Int.toNat (o + (1 : Int))) l)) (Int.toNat o) (((0 : Int), (0 : Int)), (0 : Int), (0 : Int))).snd.fst, (List.getD (stepsS fr (List.take (Int.toNat (o + (1 : Int))) l)) (Int.toNat o) (((0 : Int), (0 : Int)), (0 : Int), (0 : Int))).snd.snd) + x.fst - (1 : Int)) x.fst ≤ (9223372036854775807 : Int)) ∧ (List.getD (stepsS fr (List.take (Int.toNat (o + (1 : Int))) l)) (Int.toNat o) (((0 : Int), (0 : Int)), (0 : Int), (0 : Int))).fst.fst - Int.tdiv (changeS (((List.getD (stepsS fr (List.take (Int.toNat (o + (1 : Int))) l)) (Int.toNat o) (((0 : Int), (0 : Int)), (0 : Int), (0 : Int))).fst.fst, (List.getD (stepsS fr (List.take (Int.toNat (o + (1 : Int))) l)) (Int.toNat o) (((0 : Int), (0 : Int)), (0 : Int), (0 : Int))).fst.snd), (List.getD (stepsS fr (List.take (Int.toNat (o + (1 : Int))) l)) (Int.toNat o) (((0 : Int), (0 : Int)), (0 : Int), (0 : Int))).snd.fst, (List.getD (stepsS fr (List.take (Int.toNat (o + (1 : Int))) l)) (Int.toNat o) (((0 : Int), (0 : Int)), (0 : Int), (0 : Int))).snd.snd) + x.fst - (1 : Int)) x.fst = (xLatestS x fr l o).fst ∧ (0 : Int) = (xLatestS x fr l o).snd))) := by
  intros
  kernel_rfl
theorem wp62 (x : Int × Int × Int) (fr : Int) (l : List (Int × Int)) (o : Int) : wpF Tryz.prog G93 (na ()) Tryz.f62 cXLatest (x, fr, l, o, ()) := by
  refine (vc62 x fr l o).mpr ?_
  have hE : firstS [rampE (x.1, x.2.1, x.2.2) fr l, bif bif decide (o < 0) then true else decide ((l.length : Int) ≤ o) then 10 else 0] = lateE x fr l o := by
    unfold lateE
    cases decide (o < 0) <;> rfl
  rw [hE]
  have hR : firstS ((stepsS fr (l.take (o + 1).toNat)).map fun s => refusedS (x.1, x.2.1, x.2.2) s) = refE x fr (l.take (o + 1).toNat) := rfl
  rw [hR]
  refine ⟨by omega, fun h => ?_, fun h => ?_⟩
  · have h0 := bne_iff_ne.1 h
    simp [xLatestS, h0]
  · have h0 := bne_eq_false_iff_eq.1 h
    have h0' := h0
    unfold lateE at h0'
    rw [firstS_zero, firstS_zero] at h0'
    obtain ⟨r1, r2, r3, _, _, r6⟩ := rampE_zero h0'.1
    have ho : 0 ≤ o ∧ o < l.length := by
      have := h0'.2.1
      by_cases h1 : o < 0
      · simp [h1] at this
      · by_cases h2 : (l.length : Int) ≤ o
        · simp [h2] at this
        · omega
    have hall : ∀ s ∈ stepsS fr (l.take (o + 1).toNat), stepOk s := steps_ok (fun y hy => orders_all r2 y (List.mem_of_mem_take hy)) r3
    have hlen : (stepsS fr (l.take (o + 1).toNat)).length = (o + 1).toNat := by
      unfold stepsS
      rw [steps_len, List.length_take]; omega
    have hlt : (l.take (o + 1).toNat).length = (o + 1).toNat := by rw [List.length_take]; omega
    have hX : xLatestS x fr l o = if refE x fr (l.take (o + 1).toNat) ≠ 0 then (0, refE x fr (l.take (o + 1).toNat)) else
        let s := (stepsS fr (l.take (o + 1).toNat)).getD o.toNat ((0, 0), 0, 0)
        (s.1.1 - (changeS s + x.1 - 1).tdiv x.1, 0) := by simp [xLatestS, h0]
    rw [hX]
    generalize stepsS fr (l.take (o + 1).toNat) = all at *
    have hx1 := r1.1
    refine ⟨⟨⟨by omega, by omega⟩, ⟨by omega, by omega, by omega⟩, by omega⟩, ⟨by omega, fun s hs => ⟨r1, hall s hs⟩, by rw [List.length_map]; omega⟩, fun h1 => ?_, fun h1 => ?_⟩
    · have h1' := bne_iff_ne.1 h1
      rw [if_pos h1']; exact ⟨rfl, rfl⟩
    · have h1' := bne_eq_false_iff_eq.1 h1
      rw [if_neg (by simpa using h1')]
      have hs : stepOk (all.getD o.toNat ((0, 0), 0, 0)) := hall _ (getD_mem (by omega))
      generalize all.getD o.toNat ((0, 0), 0, 0) = s at *
      have hc := change_bd hs
      have hc' : changeS ((s.1.1, s.1.2), s.2.1, s.2.2) = changeS s := rfl
      rw [hc']
      have ht := tdiv_bd (a := changeS s + x.1 - 1) (g := x.1) (B := 4000) ⟨by omega, by omega⟩
      have h4 := hs.1
      exact ⟨⟨⟨by omega, by omega⟩, by omega, by omega⟩, ⟨hs, ⟨by omega, by omega⟩, ⟨by omega, by omega⟩, by omega, ⟨by omega, by omega⟩, by omega, by omega⟩, rfl, rfl⟩
theorem ok62 : Ok Tryz.prog 62 cXLatest := ok_of_wp mixed g93 (by kernel_rfl) (by kernel_rfl) na fun xx => wp62 xx.1 xx.2.1 xx.2.2.1 xx.2.2.2.1
abbrev G94 : Gam := (62, cXLatest) :: G93
theorem g94 : GamOk Tryz.prog G94 := .cons ok62 g93
end Go.Proofs.YtacaadhlobbemaaGreatDoor
namespace Go.Proofs.YtacaadhlobbemaaGreatDoor
open Go.Sx
def suppOk (x : Int × Int × Int) : Prop := (0 ≤ x.1 ∧ x.1 ≤ 10000) ∧ (0 ≤ x.2.1 ∧ x.2.1 ≤ 1000) ∧ (0 ≤ x.2.2 ∧ x.2.2 ≤ 1000)
theorem supp_zero {x : Int × Int × Int} (h : supportS x = 0) : suppOk x := by
  unfold supportS at h
  rw [firstS_zero, firstS_zero, firstS_zero] at h
  exact ⟨withinS_zero h.1, withinS_zero h.2.1, withinS_zero h.2.2.1⟩
def addN (x : Int × Int × Int) (d : Int) : Int := min x.2.2 ((x.2.1 * max 0 (max d (0 - d) - x.1)).tdiv 1024)
def addsS (x : Int × Int × Int) (d : Int) : Int := bif decide (0 < d) then 0 - addN x d else addN x d
def cAdds : Con := { args := [a3, aI], ress := [I], owns := [], pre := fun (x, d, _) => [suppOk x, -10000 ≤ d ∧ d ≤ 10000], spec := fun (x, d, _) => (addsS x d, ()) }
theorem vc146 : ∀ (x : Int × Int × Int) (d : Int), wpF Tryz.prog G94 (na ()) Tryz.f146 cAdds (x, d, ()) = (suppOk x → (-10000 : Int) ≤ d ∧ d ≤ (10000 : Int) → (((-9223372036854775808 : Int) ≤ (0 : Int) - d ∧ (0 : Int) - d ≤ (9223372036854775807 : Int)) ∧ ((-9223372036854775808 : Int) ≤ max d ((0 : Int) - d) - x.fst ∧ max d ((0 : Int) - d) - x.fst ≤ (9223372036854775807 : Int)) ∧ ((-9223372036854775808 : Int) ≤ x.snd.fst * max (0 : Int) (max d ((0 : Int) - d) - x.fst) ∧ x.snd.fst * max (0 : Int) (max d ((0 : Int) - d) - x.fst) ≤ (9223372036854775807 : Int)) ∧ ((1024 : Int) = (0 : Int) → False) ∧ (-9223372036854775808 : Int) ≤ Int.tdiv (x.snd.fst * max (0 : Int) (max d ((0 : Int) - d) - x.fst)) (1024 : Int) ∧ Int.tdiv (x.snd.fst * max (0 : Int) (max d ((0 : Int) - d) - x.fst)) (1024 : Int) ≤ (9223372036854775807 : Int)) ∧ (decide ((0 : Int) < d) = true → ((-9223372036854775808 : Int) ≤ (0 : Int) - min x.snd.snd (Int.tdiv (x.snd.fst * max (0 : Int) (max d ((0 : Int) - d) - x.fst)) (1024 : Int)) ∧ (0 : Int) - min x.snd.snd (Int.tdiv (x.snd.fst * max (0 : Int) (max d ((0 : Int) - d) - x.fst)) (1024 : Int)) ≤ (9223372036854775807 : Int)) ∧ (0 : Int) - min x.snd.snd (Int.tdiv (x.snd.fst * max (0 : Int) (max d ((0 : Int) - d) - x.fst)) (1024 : Int)) = addsS x d) ∧ (decide ((0 : Int) < d) = false → min x.snd.snd (Int.tdiv (x.snd.fst * max (0 : Int) (max d ((0 : Int) - d) - x.fst)) (1024 : Int)) = addsS x d)) := by
  intros
  kernel_rfl
theorem wp146 (x : Int × Int × Int) (d : Int) : wpF Tryz.prog G94 (na ()) Tryz.f146 cAdds (x, d, ()) := by
  refine (vc146 x d).mpr ?_
  intro hx hd
  obtain ⟨h1, h2, h3⟩ := hx
  have m := mul_bd (a := x.2.1) (b := max 0 (max d (0 - d) - x.1)) (A := 1000) (B := 10000) ⟨by omega, h2.2⟩ ⟨by omega, by omega⟩
  have ht := tdiv_bd (a := x.2.1 * max 0 (max d (0 - d) - x.1)) (g := 1024) (B := 10000000) ⟨by omega, by omega⟩
  have hA : addN x d = min x.2.2 ((x.2.1 * max 0 (max d (0 - d) - x.1)).tdiv 1024) := rfl
  unfold addsS
  rw [hA]
  generalize (x.2.1 * max 0 (max d (0 - d) - x.1)).tdiv 1024 = u at *
  generalize x.2.1 * max 0 (max d (0 - d) - x.1) = t at *
  refine ⟨⟨⟨by omega, by omega⟩, ⟨by omega, by omega⟩, ⟨by omega, by omega⟩, by omega, by omega, by omega⟩, fun h => ⟨⟨by omega, by omega⟩, by rw [h]; rfl⟩, fun h => by rw [h]; rfl⟩
theorem ok146 : Ok Tryz.prog 146 cAdds := ok_of_wp mixed g94 (by kernel_rfl) (by kernel_rfl) na fun xx => wp146 xx.1 xx.2.1
abbrev G95 : Gam := (146, cAdds) :: G94
theorem g95 : GamOk Tryz.prog G95 := .cons ok146 g94
def devE (x : Int × Int × Int) (d : Int) : Int := firstS [supportS x, withinS d (-10000) 10000]
def cXSupported : Con := { args := [a3, aI], ress := [I, I], owns := [], pre := fun _ => [], spec := fun (x, d, _) => (if devE x d = 0 then addsS x d else 0, devE x d, ()) }
theorem vc82 : ∀ (x : Int × Int × Int) (d : Int), wpF Tryz.prog G95 (na ()) Tryz.f82 cXSupported (x, d, ()) = ((2 : Nat) ≤ (1000000 : Nat) ∧ ((firstS [supportS (x.fst, x.snd.fst, x.snd.snd), withinS d (-10000 : Int) (10000 : Int)] != (0 : Int)) = true → ((0 : Int) = if devE x d = (0 : Int) then addsS x d else (0 : Int)) ∧ firstS [supportS (x.fst, x.snd.fst, x.snd.snd), withinS d (-10000 : Int) (10000 : Int)] = devE x d) ∧ ((firstS [supportS (x.fst, x.snd.fst, x.snd.snd), withinS d (-10000 : Int) (10000 : Int)] != (0 : Int)) = false → (suppOk (x.fst, x.snd.fst, x.snd.snd) ∧ (-10000 : Int) ≤ d ∧ d ≤ (10000 : Int)) ∧ (addsS (x.fst, x.snd.fst, x.snd.snd) d = if devE x d = (0 : Int) then addsS x d else (0 : Int)) ∧ (0 : Int) = devE x d)) := by
  intros
  kernel_rfl
theorem wp82 (x : Int × Int × Int) (d : Int) : wpF Tryz.prog G95 (na ()) Tryz.f82 cXSupported (x, d, ()) := by
  refine (vc82 x d).mpr ?_
  have hE : firstS [supportS (x.1, x.2.1, x.2.2), withinS d (-10000) 10000] = devE x d := rfl
  rw [hE]
  refine ⟨by omega, fun h => ?_, fun h => ?_⟩
  · have h0 := bne_iff_ne.1 h
    rw [if_neg h0]; exact ⟨rfl, rfl⟩
  · have h0 := bne_eq_false_iff_eq.1 h
    have h0' := h0
    unfold devE at h0'
    rw [firstS_zero, firstS_zero] at h0'
    rw [if_pos h0]
    exact ⟨⟨supp_zero h0'.1, withinS_zero h0'.2.1⟩, rfl, h0.symm⟩
theorem ok82 : Ok Tryz.prog 82 cXSupported := ok_of_wp mixed g95 (by kernel_rfl) (by kernel_rfl) na fun xx => wp82 xx.1 xx.2.1
abbrev G96 : Gam := (82, cXSupported) :: G95
theorem g96 : GamOk Tryz.prog G96 := .cons ok82 g95
def cMapInt : Con := { args := [.val false (.list 3 sI), .fn [I] I], ress := [(false, .list 3 sI)], owns := [true], pre := fun (l, (q, _), _) => [l.length ≤ 1000000, ∀ x ∈ l, conj (q (x, ()))], spec := fun (l, (_, f), _) => (l.map fun x => f (x, ()), ()) }
theorem vc147 : ∀ (l : List Int) (q : Int × Unit → List Prop) (f : Int × Unit → Int), wpF Tryz.prog G96 (ann0 (annMap (3 : TypeId) (3 : TypeId) sI l I false q f)) Tryz.f147 cMapInt (l, (q, f), ()) = (List.length l ≤ (1000000 : Nat) → (∀ (x : Int), x ∈ l → conj (q (x, PUnit.unit))) → ∃ (x : Nat), ((↑(List.length l) : Int) = (↑(List.length l) : Int) ∧ (0 : Int) = (↑x : Int) ∧ l = l ∧ (fun (x : Int × PUnit) => q x) = q ∧ (fun (x : Int × PUnit) => f x) = f ∧ List.length (List.map (fun (x : Int) => f (x, PUnit.unit)) (List.take x l)) = (0 : Nat)) ∧ x ≤ List.length l ∧ ∀ (x : Nat), x ≤ List.length l → (decide ((↑x : Int) < (↑(List.length l) : Int)) = true → (((0 : Int) ≤ (↑x : Int) ∧ (↑x : Int) < (↑(List.length l) : Int)) ∧ (0 : Int) ≤ (↑x : Int) ∧ (↑x : Int) < (↑(List.length l) : Int)) ∧ (conj (q (List.getD l x (0 : Int), PUnit.unit)) ∧ (List.length (List.map (fun (x : Int) => f (x, PUnit.unit)) (List.take x l)) + (1 : Nat)) * (8 : Nat) ≤ (140737488355328 : Nat)) ∧ ((-9223372036854775808 : Int) ≤ (↑x : Int) + (1 : Int) ∧ (↑x : Int) + (1 : Int) ≤ (9223372036854775807 : Int)) ∧ ∃ (y : Nat), ((↑(List.length l) : Int) = (↑(List.length l) : Int) ∧ (↑x : Int) + (1 : Int) = (↑y : Int) ∧ l = l ∧ (fun (x : Int × PUnit) => q x) = q ∧ (fun (x : Int × PUnit) => f x) = f ∧ List.map (fun (x : Int) => f (x, PUnit.unit)) (List.take x l) ++ [f (List.getD l x (0 : Int), PUnit.unit)] = List.map (fun (x : Int) => f (x, PUnit.unit)) (List.take y l)) ∧ y ≤ List.length l ∧ List.length l - y < List.length l - x) ∧ (decide ((↑x : Int) < (↑(List.length l) : Int)) = false → List.map (fun (x : Int) => f (x, PUnit.unit)) (List.take x l) = List.map (fun (x : Int) => f (x, PUnit.unit)) l)) := by
  intros
  kernel_rfl
theorem wp147 (l : List Int) (q : Int × Unit → List Prop) (f : Int × Unit → Int) : wpF Tryz.prog G96 (ann0 (annMap 3 3 sI l I false q f)) Tryz.f147 cMapInt (l, (q, f), ()) := by
  refine (vc147 l q f).mpr ?_
  intro hb hq
  refine ⟨(0 : Nat), ⟨rfl, rfl, rfl, rfl, rfl, by simp⟩, Nat.zero_le _, fun (k : Nat) hk => ⟨fun h => ?_, fun h => ?_⟩⟩
  · have hlt : k < l.length := by simpa using h
    refine ⟨by omega, ⟨hq _ (getD_mem hlt), by simp only [List.length_map, List.length_take]; omega⟩, by omega, (k + 1 : Nat), ⟨rfl, by simp, rfl, rfl, rfl, ?_⟩, by omega, by omega⟩
    rw [← take_snoc (d := 0) hlt, List.map_append]; rfl
  · have hlt : ¬ k < l.length := by simpa using h
    rw [List.take_of_length_le (by omega)]
theorem ok147 : Ok Tryz.prog 147 cMapInt := ok_of_wp mixed g96 (by kernel_rfl) (by kernel_rfl) (fun xx => ann0 (annMap 3 3 sI xx.1 I false xx.2.1.1 xx.2.1.2)) fun xx => wp147 xx.1 xx.2.1.1 xx.2.1.2
abbrev G97 : Gam := (147, cMapInt) :: G96
theorem g97 : GamOk Tryz.prog G97 := .cons ok147 g96
def devsE (x : Int × Int × Int) (l : List Int) : Int := firstS [supportS x, bif decide (256 < (l.length : Int)) then 5 else 0]
def devsM (l : List Int) : Int := firstS (l.map fun d => withinS d (-10000) 10000)
def xRespS (x : Int × Int × Int) (l : List Int) : List Int × Int :=
  if devsE x l ≠ 0 then ([], devsE x l) else if devsM l ≠ 0 then ([], devsM l) else (l.map fun d => addsS x d, 0)
def cXResponses : Con := { args := [a3, .val false (.list 3 sI)], ress := [(false, .list 3 sI), I], owns := [true], pre := fun (_, l, _) => [l.length ≤ 1000000], spec := fun (x, l, _) => ((xRespS x l).1, (xRespS x l).2, ()) }
theorem vc83 : ∀ (x : Int × Int × Int) (l : List Int), wpF Tryz.prog G97 (na ()) Tryz.f83 cXResponses (x, l, ()) = (List.length l ≤ (1000000 : Nat) → (2 : Nat) ≤ (1000000 : Nat) ∧ ((firstS [supportS (x.fst, x.snd.fst, x.snd.snd), bif decide ((256 : Int) < (↑(List.length l) : Int)) then (5 : Int) else (0 : Int)] != (0 : Int)) = true → [] = (xRespS x l).fst ∧ firstS [supportS (x.fst, x.snd.fst, x.snd.snd), bif decide ((256 : Int) < (↑(List.length l) : Int)) then (5 : Int) else (0 : Int)] = (xRespS x l).snd) ∧ ((firstS [supportS (x.fst, x.snd.fst, x.snd.snd), bif decide ((256 : Int) < (↑(List.length l) : Int)) then (5 : Int) else (0 : Int)] != (0 : Int)) = false → (List.length l ≤ (1000000 : Nat) ∧ (∀ (x : Int), x ∈ l → True) ∧ List.length (List.map (fun (x : Int) => withinS x (-10000 : Int) (10000 : Int)) l) ≤ (1000000 : Nat)) ∧ ((firstS (List.map (fun (x : Int) => withinS x (-10000 : Int) (10000 : Int)) l) != (0 : Int)) = true → [] = (xRespS x l).fst ∧ firstS (List.map (fun (x : Int) => withinS x (-10000 : Int) (10000 : Int)) l) = (xRespS x l).snd) ∧ ((firstS (List.map (fun (x : Int) => withinS x (-10000 : Int) (10000 : Int)) l) != (0 : Int)) = false → (List.length l ≤ (1000000 : Nat) ∧ ∀ (x_1 : Int), x_1 ∈ l → suppOk (x.fst, x.snd.fst, x.snd.snd) ∧ (-10000 : Int) ≤ x_1 ∧ x_1 ≤ (10000 : Int)) ∧ List.map (fun (x_1 : Int) => addsS (x.fst, x.snd.fst, x.snd.snd) x_1) l = (xRespS x l).fst ∧ (0 : Int) = (xRespS x l).snd))) := by
  intros
  kernel_rfl
theorem wp83 (x : Int × Int × Int) (l : List Int) : wpF Tryz.prog G97 (na ()) Tryz.f83 cXResponses (x, l, ()) := by
  refine (vc83 x l).mpr ?_
  intro hb
  have hE : firstS [supportS (x.1, x.2.1, x.2.2), bif decide (256 < (l.length : Int)) then 5 else 0] = devsE x l := rfl
  have hM : firstS (l.map fun d => withinS d (-10000) 10000) = devsM l := rfl
  rw [hE, hM]
  refine ⟨by omega, fun h => ?_, fun h => ⟨⟨hb, fun _ _ => trivial, by rw [List.length_map]; exact hb⟩, fun h1 => ?_, fun h1 => ?_⟩⟩
  · have h0 := bne_iff_ne.1 h
    simp [xRespS, h0]
  · have h0 := bne_eq_false_iff_eq.1 h
    have h1' := bne_iff_ne.1 h1
    simp [xRespS, h0, h1']
  · have h0 := bne_eq_false_iff_eq.1 h
    have h1' := bne_eq_false_iff_eq.1 h1
    have hs : suppOk x := by
      have h0' := h0
      unfold devsE at h0'
      rw [firstS_zero] at h0'
      exact supp_zero h0'.1
    refine ⟨⟨hb, fun d hd => ⟨hs, ?_⟩⟩, ?_, ?_⟩
    · exact withinS_zero (firstS_all h1' _ (List.mem_map.2 ⟨d, hd, rfl⟩))
    · simp [xRespS, h0, h1']
    · simp [xRespS, h0, h1']
theorem ok83 : Ok Tryz.prog 83 cXResponses := ok_of_wp mixed g97 (by kernel_rfl) (by kernel_rfl) na fun xx => wp83 xx.1 xx.2.1
abbrev G98 : Gam := (83, cXResponses) :: G97
theorem g98 : GamOk Tryz.prog G98 := .cons ok83 g97
def firstL : List (Int × Int) := [(0, 100), (100, 0)]
def secondL : List (Int × Int) := [(0, 50), (100, -50)]
def marketL : List (Int × Int) := [(5, 20), (15, -10)]
def otherL : List (Int × Int) := [(10, 5)]
def twoL : List (Int × Int) := [(5, 20), (10, 25)]
def cLit (T : TypeId) (l : List (Int × Int)) : Con := { args := [], ress := [(false, .list T sPt)], owns := [true], pre := fun _ => [], spec := fun _ => (l, ()) }
theorem vc94 : wpF Tryz.prog G98 (na ()) Tryz.f94 (cLit (176 : TypeId) firstL) () = ([((0 : Int), (100 : Int)), ((100 : Int), (0 : Int))] = firstL) := by
  intros
  kernel_rfl
theorem wp94  : wpF Tryz.prog G98 (na ()) Tryz.f94 (cLit 176 firstL) () := by
  refine vc94.mpr ?_
  rfl
theorem ok94 : Ok Tryz.prog 94 (cLit 176 firstL) := ok_of_wp mixed g98 (by kernel_rfl) (by kernel_rfl) na fun xx => wp94 
abbrev G99 : Gam := (94, (cLit 176 firstL)) :: G98
theorem g99 : GamOk Tryz.prog G99 := .cons ok94 g98
theorem vc95 : wpF Tryz.prog G99 (na ()) Tryz.f95 (cLit (176 : TypeId) secondL) () = ([((0 : Int), (50 : Int)), ((100 : Int), (-50 : Int))] = secondL) := by
  intros
  kernel_rfl
theorem wp95  : wpF Tryz.prog G99 (na ()) Tryz.f95 (cLit 176 secondL) () := by
  refine vc95.mpr ?_
  rfl
theorem ok95 : Ok Tryz.prog 95 (cLit 176 secondL) := ok_of_wp mixed g99 (by kernel_rfl) (by kernel_rfl) na fun xx => wp95 
abbrev G100 : Gam := (95, (cLit 176 secondL)) :: G99
theorem g100 : GamOk Tryz.prog G100 := .cons ok95 g99
theorem vc96 : wpF Tryz.prog G100 (na ()) Tryz.f96 (cLit (172 : TypeId) marketL) () = ([((5 : Int), (20 : Int)), ((15 : Int), (-10 : Int))] = marketL) := by
  intros
  kernel_rfl
theorem wp96  : wpF Tryz.prog G100 (na ()) Tryz.f96 (cLit 172 marketL) () := by
  refine vc96.mpr ?_
  rfl
theorem ok96 : Ok Tryz.prog 96 (cLit 172 marketL) := ok_of_wp mixed g100 (by kernel_rfl) (by kernel_rfl) na fun xx => wp96 
abbrev G101 : Gam := (96, (cLit 172 marketL)) :: G100
theorem g101 : GamOk Tryz.prog G101 := .cons ok96 g100
theorem vc97 : wpF Tryz.prog G101 (na ()) Tryz.f97 (cLit (172 : TypeId) otherL) () = ([((10 : Int), (5 : Int))] = otherL) := by
  intros
  kernel_rfl
theorem wp97  : wpF Tryz.prog G101 (na ()) Tryz.f97 (cLit 172 otherL) () := by
  refine vc97.mpr ?_
  rfl
theorem ok97 : Ok Tryz.prog 97 (cLit 172 otherL) := ok_of_wp mixed g101 (by kernel_rfl) (by kernel_rfl) na fun xx => wp97 
abbrev G102 : Gam := (97, (cLit 172 otherL)) :: G101
theorem g102 : GamOk Tryz.prog G102 := .cons ok97 g101
theorem vc98 : wpF Tryz.prog G102 (na ()) Tryz.f98 (cLit (172 : TypeId) twoL) () = ([((5 : Int), (20 : Int)), ((10 : Int), (25 : Int))] = twoL) := by
  intros
  kernel_rfl
theorem wp98  : wpF Tryz.prog G102 (na ()) Tryz.f98 (cLit 172 twoL) () := by
  refine vc98.mpr ?_
  rfl
theorem ok98 : Ok Tryz.prog 98 (cLit 172 twoL) := ok_of_wp mixed g102 (by kernel_rfl) (by kernel_rfl) na fun xx => wp98 
abbrev G103 : Gam := (98, (cLit 172 twoL)) :: G102
theorem g103 : GamOk Tryz.prog G103 := .cons ok98 g102
end Go.Proofs.YtacaadhlobbemaaGreatDoor
namespace Go.Proofs.YtacaadhlobbemaaGreatDoor
open Go.Sx
def cIsNaN : Con := { args := [aI], ress := [Bo], owns := [], pre := fun _ => [], spec := fun _ => (false, ()) }
theorem vc189 : ∀ (n : Int), wpF Tryz.prog G103 (na ()) Tryz.f189 cIsNaN (n, ()) = ((n != n) = false) := by
  intros
  kernel_rfl
theorem wp189 (n : Int) : wpF Tryz.prog G103 (na ()) Tryz.f189 cIsNaN (n, ()) := by
  refine (vc189 n).mpr ?_
  simp
theorem ok189 : Ok Tryz.prog 189 cIsNaN := ok_of_wp mixed g103 (by kernel_rfl) (by kernel_rfl) na fun xx => wp189 xx.1
abbrev G104 : Gam := (189, cIsNaN) :: G103
theorem g104 : GamOk Tryz.prog G104 := .cons ok189 g103
def cmpS (x y : Int) : Int := bif decide (x < y) then -1 else bif decide (y < x) then 1 else 0
def cCmp : Con := { args := [aI, aI], ress := [I], owns := [], pre := fun _ => [], spec := fun (x, y, _) => (cmpS x y, ()) }
theorem vc164 : ∀ (x y : Int), wpF Tryz.prog G104 (na ()) Tryz.f164 cCmp (x, y, ()) = ((false = true → (false = true → (0 : Int) = cmpS x y) ∧ (false = false → (-1 : Int) = cmpS x y)) ∧ (false = false → (false = true → (1 : Int) = cmpS x y) ∧ (false = false → (decide (x < y) = true → (-1 : Int) = cmpS x y) ∧ (decide (x < y) = false → (decide (y < x) = true → (1 : Int) = cmpS x y) ∧ (decide (y < x) = false → (0 : Int) = cmpS x y))))) := by
  intros
  kernel_rfl
theorem wp164 (x y : Int) : wpF Tryz.prog G104 (na ()) Tryz.f164 cCmp (x, y, ()) := by
  refine (vc164 x y).mpr ?_
  unfold cmpS
  refine ⟨fun h => (by cases h), fun _ => ⟨fun h => (by cases h), fun _ => ⟨fun h => ?_, fun h => ⟨fun h1 => ?_, fun h1 => ?_⟩⟩⟩⟩
  · rw [h]; rfl
  · rw [h, h1]; rfl
  · rw [h, h1]; rfl
theorem ok164 : Ok Tryz.prog 164 cCmp := ok_of_wp mixed g104 (by kernel_rfl) (by kernel_rfl) na fun xx => wp164 xx.1 xx.2.1
abbrev G105 : Gam := (164, cCmp) :: G104
theorem g105 : GamOk Tryz.prog G105 := .cons ok164 g104
abbrev cIdxOrders : Con := { args := [.val false (.list 172 sPt), .fn [(true, sPt)] Bo], ress := [I], owns := [], pre := fun (l, (q, _), _) => [l.length ≤ 1000000, ∀ x ∈ l, conj (q (x, ()))], spec := fun (l, (_, f), _) => (idxS (fun x => f (x, ())) l 0, ()) }
theorem vc165 : ∀ (l : List (Int × Int)) (q : (Int × Int) × Unit → List Prop) (f : (Int × Int) × Unit → Bool), wpF Tryz.prog G105 (ann0 (annIdx (172 : TypeId) sPt l [(true, sPt)] Bo q f fun (k : Nat) => idxS (fun (x : Int × Int) => f (x, ())) l (0 : Int) = idxS (fun (x : Int × Int) => f (x, ())) (List.drop k l) (↑k : Int))) Tryz.f165 cIdxOrders (l, (q, f), ()) = (List.length l ≤ (1000000 : Nat) → (∀ (x : Int × Int), x ∈ l → conj (q (x, PUnit.unit))) → ∃ (x : Nat), ((↑(List.length l) : Int) = (↑(List.length l) : Int) ∧ (0 : Int) = (↑x : Int) ∧ l = l ∧ (fun (x : (Int × Int) × PUnit) => q x) = q ∧ (fun (x : (Int × Int) × PUnit) => f x) = f) ∧ (x ≤ List.length l ∧ idxS (fun (x : Int × Int) => f (x, PUnit.unit)) l (0 : Int) = idxS (fun (x : Int × Int) => f (x, PUnit.unit)) (List.drop x l) (↑x : Int)) ∧ ∀ (x : Nat), x ≤ List.length l ∧ idxS (fun (x : Int × Int) => f (x, PUnit.unit)) l (0 : Int) = idxS (fun (x : Int × Int) => f (x, PUnit.unit)) (List.drop x l) (↑x : Int) → (decide ((↑x : Int) < (↑(List.length l) : Int)) = true → (((0 : Int) ≤ (↑x : Int) ∧ (↑x : Int) < (↑(List.length l) : Int)) ∧ ((0 : Int) ≤ (↑x : Int) ∧ (↑x : Int) < (↑(List.length l) : Int)) ∧ conj (q (((List.getD l x ((0 : Int), (0 : Int))).fst, (List.getD l x ((0 : Int), (0 : Int))).snd), PUnit.unit))) ∧ (f (((List.getD l x ((0 : Int), (0 : Int))).fst, (List.getD l x ((0 : Int), (0 : Int))).snd), PUnit.unit) = true → (↑x : Int) = idxS (fun (x : Int × Int) => f (x, PUnit.unit)) l (0 : Int)) ∧ (f (((List.getD l x ((0 : Int), (0 : Int))).fst, (List.getD l x ((0 : Int), (0 : Int))).snd), PUnit.unit) = false → ((-9223372036854775808 : Int) ≤ (↑x : Int) + (1 : Int) ∧ (↑x : Int) + (1 : Int) ≤ (9223372036854775807 : Int)) ∧ ∃ (y : Nat), ((↑(List.length l) : Int) = (↑(List.length l) : Int) ∧ (↑x : Int) + (1 : Int) = (↑y : Int) ∧ l = l ∧ (fun (x : (Int × Int) × PUnit) => q x) = q ∧ (fun (x : (Int × Int) × PUnit) => f x) = f) ∧ (y ≤ List.length l ∧ idxS (fun (x : Int × Int) => f (x, PUnit.unit)) l (0 : Int) = idxS (fun (x : Int × Int) => f (x, PUnit.unit)) (List.drop y l) (↑y : Int)) ∧ List.length l - y < List.length l - x)) ∧ (decide ((↑x : Int) < (↑(List.length l) : Int)) = false → (-1 : Int) = idxS (fun (x : Int × Int) => f (x, PUnit.unit)) l (0 : Int))) := by
  intros
  kernel_rfl
theorem wp165 (l : List (Int × Int)) (q : (Int × Int) × Unit → List Prop) (f : (Int × Int) × Unit → Bool) : wpF Tryz.prog G105 (ann0 (annIdx 172 sPt l [(true, sPt)] Bo q f fun k => idxS (fun x => f (x, ())) l 0 = idxS (fun x => f (x, ())) (l.drop k) k)) Tryz.f165 cIdxOrders (l, (q, f), ()) := by
  refine (vc165 l q f).mpr ?_
  intro hb hq
  refine ⟨(0 : Nat), ⟨rfl, rfl, rfl, rfl, rfl⟩, ⟨Nat.zero_le _, rfl⟩, fun (k : Nat) hk => ⟨fun h => ?_, fun h => ?_⟩⟩
  · have hlt : k < l.length := by simpa using h
    have hd := idxS_drop (f := fun x => f (x, ())) (d := (0, 0)) hlt
    refine ⟨⟨by omega, by omega, hq _ (getD_mem hlt)⟩, fun h1 => ?_, fun h1 => ⟨by omega, (k + 1 : Nat), ⟨rfl, by simp, rfl, rfl, rfl⟩, ⟨by omega, ?_⟩, by omega⟩⟩
    · rw [hk.2, hd, if_pos h1]
    · rw [hk.2, hd, if_neg (by rw [show f (l.getD k (0, 0), ()) = false from h1]; simp)]
  · have hlt : ¬ k < l.length := by simpa using h
    have : k = l.length := by omega
    rw [hk.2, this, List.drop_length]; rfl
theorem ok165 : Ok Tryz.prog 165 cIdxOrders := ok_of_wp mixed g105 (by kernel_rfl) (by kernel_rfl) (fun xx => ann0 (annIdx 172 sPt xx.1 [(true, sPt)] Bo xx.2.1.1 xx.2.1.2 fun k => idxS (fun x => xx.2.1.2 (x, ())) xx.1 0 = idxS (fun x => xx.2.1.2 (x, ())) (xx.1.drop k) k)) fun xx => wp165 xx.1 xx.2.1.1 xx.2.1.2
abbrev G106 : Gam := (165, cIdxOrders) :: G105
theorem g106 : GamOk Tryz.prog G106 := .cons ok165 g105
abbrev cHasOrder : Con := { args := [.val false (.list 172 sPt), .fn [(true, sPt)] Bo], ress := [Bo], owns := [], pre := fun (l, (q, _), _) => [l.length ≤ 1000000, ∀ x ∈ l, conj (q (x, ()))], spec := fun (l, (_, f), _) => (decide (0 ≤ idxS (fun x => f (x, ())) l 0), ()) }
theorem vc129 : ∀ (l : List (Int × Int)) (q : (Int × Int) × Unit → List Prop) (f : (Int × Int) × Unit → Bool), wpF Tryz.prog G106 (na ()) Tryz.f129 cHasOrder (l, (q, f), ()) = (List.length l ≤ (1000000 : Nat) → (∀ (x : Int × Int), x ∈ l → conj (q (x, PUnit.unit))) → (List.length l ≤ (1000000 : Nat) ∧ ∀ (x : Int × Int), x ∈ l → conj (q (x, PUnit.unit))) ∧ decide ((0 : Int) ≤ idxS (fun (x : Int × Int) => f (x, PUnit.unit)) l (0 : Int)) = decide ((0 : Int) ≤ idxS (fun (x : Int × Int) => f (x, PUnit.unit)) l (0 : Int))) := by
  intros
  kernel_rfl
theorem wp129 (l : List (Int × Int)) (q : (Int × Int) × Unit → List Prop) (f : (Int × Int) × Unit → Bool) : wpF Tryz.prog G106 (na ()) Tryz.f129 cHasOrder (l, (q, f), ()) := by
  refine (vc129 l q f).mpr ?_
  intro hb hq
  exact ⟨⟨hb, hq⟩, rfl⟩
theorem ok129 : Ok Tryz.prog 129 cHasOrder := ok_of_wp mixed g106 (by kernel_rfl) (by kernel_rfl) na fun xx => wp129 xx.1 xx.2.1.1 xx.2.1.2
abbrev G107 : Gam := (129, cHasOrder) :: G106
theorem g107 : GamOk Tryz.prog G107 := .cons ok129 g106
def cLarge : Con := { args := [aP], ress := [Bo], owns := [], pre := fun _ => [], spec := fun (x, _) => (withinS x.2 (-1000) 1000 != 0, ()) }
theorem vc130 : ∀ (x : Int × Int), wpF Tryz.prog G107 (na ()) Tryz.f130 cLarge (x, ()) = ((withinS x.snd (-1000 : Int) (1000 : Int) != (0 : Int)) = (withinS x.snd (-1000 : Int) (1000 : Int) != (0 : Int))) := by
  intros
  kernel_rfl
theorem wp130 (x : Int × Int) : wpF Tryz.prog G107 (na ()) Tryz.f130 cLarge (x, ()) := by
  refine (vc130 x).mpr ?_
  rfl
theorem ok130 : Ok Tryz.prog 130 cLarge := ok_of_wp mixed g107 (by kernel_rfl) (by kernel_rfl) na fun xx => wp130 xx.1
abbrev G108 : Gam := (130, cLarge) :: G107
theorem g108 : GamOk Tryz.prog G108 := .cons ok130 g107
end Go.Proofs.YtacaadhlobbemaaGreatDoor
namespace Go.Proofs.YtacaadhlobbemaaGreatDoor
open Go.Sx
set_option maxHeartbeats 20000000
abbrev TrT := Int × Int × Int × Int
def runE (x : TrT) (s : Int × Int) : Int := firstS [tripS x, withinS s.1 0 x.2.1, withinS s.2 0 10000]
def nextT (x : TrT) (s : Int × Int) : Int × Int := (max 0 (s.1 + s.2 - (if x.1 < s.1 then x.2.2.1 else 0)), max 0 (s.2 - x.2.2.2))
def runGo (x : TrT) : Nat → Int → Int × Int → List (Int × Int) → List (Int × Int) × Int × Int
  | 0, _, _, _ => ([], 0, 20)
  | f + 1, i, s, out => if x.2.1 < s.1 then ([], i, 30) else if s.2 = 0 ∧ s.1 ≤ x.1 then (out ++ [s], 0, 0) else runGo x f (i + 1) (nextT x s) (out ++ [s])
def runF (x : TrT) (s : Int × Int) : List (Int × Int) × Int × Int := if runE x s ≠ 0 then ([], 0, runE x s) else runGo x 257 0 s []
def cNext : Con := { args := [.val true s4, .val true sPt], ress := [Pr], owns := [], pre := fun (x, s, _) => [-100000 ≤ s.1 ∧ s.1 ≤ 100000, -100000 ≤ s.2 ∧ s.2 ≤ 100000, -100000 ≤ x.2.2.1 ∧ x.2.2.1 ≤ 100000, -100000 ≤ x.2.2.2 ∧ x.2.2.2 ≤ 100000], spec := fun (x, s, _) => (nextT x s, ()) }
theorem vc167 : ∀ (x : TrT) (s : Int × Int), wpF Tryz.prog G108 (na ()) Tryz.f167 cNext (x, s, ()) = ((-100000 : Int) ≤ s.fst ∧ s.fst ≤ (100000 : Int) → (-100000 : Int) ≤ s.snd ∧ s.snd ≤ (100000 : Int) → (-100000 : Int) ≤ x.snd.snd.fst ∧ x.snd.snd.fst ≤ (100000 : Int) → (-100000 : Int) ≤ x.snd.snd.snd ∧ x.snd.snd.snd ≤ (100000 : Int) → (decide (x.fst < s.fst) = true → (((-9223372036854775808 : Int) ≤ s.fst + s.snd ∧ s.fst + s.snd ≤ (9223372036854775807 : Int)) ∧ ((-9223372036854775808 : Int) ≤ s.fst + s.snd - x.snd.snd.fst ∧ s.fst + s.snd - x.snd.snd.fst ≤ (9223372036854775807 : Int)) ∧ (-9223372036854775808 : Int) ≤ s.snd - x.snd.snd.snd ∧ s.snd - x.snd.snd.snd ≤ (9223372036854775807 : Int)) ∧ (max (0 : Int) (s.fst + s.snd - x.snd.snd.fst), max (0 : Int) (s.snd - x.snd.snd.snd)) = nextT x s) ∧ (decide (x.fst < s.fst) = false → (((-9223372036854775808 : Int) ≤ s.fst + s.snd ∧ s.fst + s.snd ≤ (9223372036854775807 : Int)) ∧ ((-9223372036854775808 : Int) ≤ s.fst + s.snd - (0 : Int) ∧ s.fst + s.snd - (0 : Int) ≤ (9223372036854775807 : Int)) ∧ (-9223372036854775808 : Int) ≤ s.snd - x.snd.snd.snd ∧ s.snd - x.snd.snd.snd ≤ (9223372036854775807 : Int)) ∧ (max (0 : Int) (s.fst + s.snd - (0 : Int)), max (0 : Int) (s.snd - x.snd.snd.snd)) = nextT x s)) := by
  intros
  kernel_rfl
theorem wp167 (x : TrT) (s : Int × Int) : wpF Tryz.prog G108 (na ()) Tryz.f167 cNext (x, s, ()) := by
  refine (vc167 x s).mpr ?_
  intro h1 h2 h3 h4
  refine ⟨fun h => ⟨⟨⟨by omega, by omega⟩, ⟨by omega, by omega⟩, by omega, by omega⟩, ?_⟩, fun h => ⟨⟨⟨by omega, by omega⟩, ⟨by omega, by omega⟩, by omega, by omega⟩, ?_⟩⟩
  · unfold nextT; rw [if_pos (of_decide_eq_true h)]
  · unfold nextT; rw [if_neg (of_decide_eq_false h)]
theorem ok167 : Ok Tryz.prog 167 cNext := ok_of_wp mixed g108 (by kernel_rfl) (by kernel_rfl) na fun xx => wp167 xx.1 xx.2.1
abbrev G109 : Gam := (167, cNext) :: G108
theorem g109 : GamOk Tryz.prog G109 := .cons ok167 g108
theorem trip_facts {x : TrT} (h : tripS x = 0) : (0 ≤ x.1 ∧ x.1 ≤ 10000) ∧ (0 ≤ x.2.1 ∧ x.2.1 ≤ 10000) ∧ (1 ≤ x.2.2.1 ∧ x.2.2.1 ≤ 10000) ∧ (1 ≤ x.2.2.2 ∧ x.2.2.2 ≤ 10000) := by
  unfold tripS at h
  obtain ⟨h1, h⟩ := firstS_zero.1 h
  obtain ⟨h2, h⟩ := firstS_zero.1 h
  obtain ⟨h3, h⟩ := firstS_zero.1 h
  obtain ⟨h4, h⟩ := firstS_zero.1 h
  exact ⟨withinS_zero h1, withinS_zero h2, withinS_zero h3, withinS_zero h4⟩
theorem runE_facts {x : TrT} {s : Int × Int} (h : runE x s = 0) : tripS x = 0 ∧ (0 ≤ s.1 ∧ s.1 ≤ x.2.1) ∧ (0 ≤ s.2 ∧ s.2 ≤ 10000) := by
  unfold runE at h
  obtain ⟨h1, h⟩ := firstS_zero.1 h
  obtain ⟨h2, h⟩ := firstS_zero.1 h
  obtain ⟨h3, h⟩ := firstS_zero.1 h
  exact ⟨h1, withinS_zero h2, withinS_zero h3⟩
def cRun : Con := { args := [.val true s4, .val true sPt], ress := [(false, .list 121 sPt), I, I], owns := [], pre := fun _ => [], spec := fun (x, s, _) => ((runF x s).1, (runF x s).2.1, (runF x s).2.2, ()) }
abbrev annRun (x : TrT) (s : Int × Int) : Ann := { X := Nat × (Int × Int) × List (Int × Int), σ := fun (k, q, out) => ⟨14, [(0, .one (.fv 11)), (1, .one (.ptr 9 0)), (2, .one (.ptr 8 0)), (4, .one (.int .i64 k))], [(0, .box 120 [.int .i64 x.1, .int .i64 x.2.1, .int .i64 x.2.2.1, .int .i64 x.2.2.2]), (2, .box 117 [.val (.slice none 0 0)]), (3, .box 3 [.int .i64 0]), (4, .box 26 [.int .i64 0]), (6, .box 117 [.sl 13]), (8, .box 120 [.int .i64 x.1, .int .i64 x.2.1, .int .i64 x.2.2.1, .int .i64 x.2.2.2]), (9, .box 121 [.int .i64 q.1, .int .i64 q.2]), (11, .yld .ready), (12, .sus [(2, .one (.ptr 0 0)), (4, .one (.ptr 2 0)), (5, .one (.ptr 3 0)), (6, .one (.ptr 4 0)), (8, .one (.ptr 6 0))]), (13, .own 121 sPt out)]⟩, inv := fun (k, q, out) => k ≤ 257 ∧ runE x s = 0 ∧ runF x s = runGo x (257 - k) k q out ∧ (0 ≤ q.1 ∧ q.1 ≤ 20000) ∧ (0 ≤ q.2 ∧ q.2 ≤ 10000) ∧ out.length = k, mu := fun (k, _) => 257 - k }
theorem vc70 : ∀ (x : TrT) (s : Int × Int), wpFG Tryz.prog G109 (na ()) (fun (f : FuncId) (id : Nat) => if f = (166 : FuncId) then some (annRun x s) else none) (Sx.look [((142 : Nat), Tryz.f142), ((166 : Nat), Tryz.f166)]) Tryz.f70 cRun (x, s, ()) = ((3 : Nat) ≤ (1000000 : Nat) ∧ ((firstS [tripS (x.fst, x.snd.fst, x.snd.snd.fst, x.snd.snd.snd), withinS s.fst (0 : Int) x.snd.fst, withinS s.snd (0 : Int) (10000 : Int)] != (0 : Int)) = true → true = true ∧ [] = (runF x s).fst ∧ (0 : Int) = (runF x s).snd.fst ∧ firstS [tripS (x.fst, x.snd.fst, x.snd.snd.fst, x.snd.snd.snd), withinS s.fst (0 : Int) x.snd.fst, withinS s.snd (0 : Int) (10000 : Int)] = (runF x s).snd.snd) ∧ ((firstS [tripS (x.fst, x.snd.fst, x.snd.snd.fst, x.snd.snd.snd), withinS s.fst (0 : Int) x.snd.fst, withinS s.snd (0 : Int) (10000 : Int)] != (0 : Int)) = false → ∃ (x_1 : Nat × (Int × Int) × List (Int × Int)), ((0 : Int) = (↑x_1.1 : Int) ∧ x.fst = x.fst ∧ x.snd.fst = x.snd.fst ∧ x.snd.snd.fst = x.snd.snd.fst ∧ x.snd.snd.snd = x.snd.snd.snd ∧ Value.slice none (0 : Nat) (0 : Nat) = Value.slice none (0 : Nat) (0 : Nat) ∧ (0 : Int) = (0 : Int) ∧ (0 : Int) = (0 : Int) ∧ x.fst = x.fst ∧ x.snd.fst = x.snd.fst ∧ x.snd.snd.fst = x.snd.snd.fst ∧ x.snd.snd.snd = x.snd.snd.snd ∧ s.fst = x_1.2.1.fst ∧ s.snd = x_1.2.1.snd ∧ List.length x_1.2.2 = (0 : Nat)) ∧ (x_1.fst ≤ (257 : Nat) ∧ runE x s = (0 : Int) ∧ runF x s = runGo x ((257 : Nat) - x_1.fst) (↑x_1.fst : Int) x_1.2.fst x_1.2.snd ∧ ((0 : Int) ≤ x_1.2.fst.fst ∧ x_1.2.fst.fst ≤ (20000 : Int)) ∧ ((0 : Int) ≤ x_1.2.fst.snd ∧ x_1.2.fst.snd ≤ (10000 : Int)) ∧ List.length x_1.2.snd = x_1.fst) ∧ ∀ (x_2 : Nat × (Int × Int) × List (Int × Int)), x_2.fst ≤ (257 : Nat) ∧ runE x s = (0 : Int) ∧ runF x s = runGo x ((257 : Nat) - x_2.fst) (↑x_2.fst : Int) x_2.2.fst x_2.2.snd ∧ ((0 : Int) ≤ x_2.2.fst.fst ∧ x_2.2.fst.fst ≤ (20000 : Int)) ∧ ((0 : Int) ≤ x_2.2.fst.snd ∧ x_2.2.fst.snd ≤ (10000 : Int)) ∧ List.length x_2.2.snd = x_2.fst → (decide ((256 : Int) < (↑x_2.1 : Int)) = true → (false = true → (((-100000 : Int) ≤ x_2.2.1.fst ∧ x_2.2.1.fst ≤ (100000 : Int)) ∧ ((-100000 : Int) ≤ x_2.2.1.snd ∧ x_2.2.1.snd ≤ (100000 : Int)) ∧ ((-100000 : Int) ≤ x.snd.snd.fst ∧ x.snd.snd.fst ≤ (100000 : Int)) ∧ (-100000 : Int) ≤ x.snd.snd.snd ∧ x.snd.snd.snd ≤ (100000 : Int)) ∧ ((-9223372036854775808 : Int) ≤ (↑x_2.1 : Int) + (1 : Int) ∧ (↑x_2.1 : Int) + (1 : Int) ≤ (9223372036854775807 : Int)) ∧ ∃ (y : Nat × (Int × Int) × List (Int × Int)), False ∧ (y.fst ≤ (257 : Nat) ∧ runE x s = (0 : Int) ∧ runF x s = runGo x ((257 : Nat) - y.fst) (↑y.fst : Int) y.2.fst y.2.snd ∧ ((0 : Int) ≤ y.2.fst.fst ∧ y.2.fst.fst ≤ (20000 : Int)) ∧ ((0 : Int) ≤ y.2.fst.snd ∧ y.2.fst.snd ≤ (10000 : Int)) ∧ List.length y.2.snd = y.fst) ∧ (257 : Nat) - y.fst < (257 : Nat) - x_2.fst) ∧ (false = false → true = true ∧ [] = (runF x s).fst ∧ (0 : Int) = (runF x s).snd.fst ∧ (20 : Int) = (runF x s).snd.snd)) ∧ (decide ((256 : Int) < (↑x_2.1 : Int)) = false → (decide (x.snd.fst < x_2.2.1.fst) = true → (false = true → (((-100000 : Int) ≤ x_2.2.1.fst ∧ x_2.2.1.fst ≤ (100000 : Int)) ∧ ((-100000 : Int) ≤ x_2.2.1.snd ∧ x_2.2.1.snd ≤ (100000 : Int)) ∧ ((-100000 : Int) ≤ x.snd.snd.fst ∧ x.snd.snd.fst ≤ (100000 : Int)) ∧ (-100000 : Int) ≤ x.snd.snd.snd ∧ x.snd.snd.snd ≤ (100000 : Int)) ∧ ((-9223372036854775808 : Int) ≤ (↑x_2.1 : Int) + (1 : Int) ∧ (↑x_2.1 : Int) + (1 : Int) ≤ (9223372036854775807 : Int)) ∧ ∃ (y : Nat × (Int × Int) × List (Int × Int)), False ∧ (y.fst ≤ (257 : Nat) ∧ runE x s = (0 : Int) ∧ runF x s = runGo x ((257 : Nat) - y.fst) (↑y.fst : Int) y.2.fst y.2.snd ∧ ((0 : Int) ≤ y.2.fst.fst ∧ y.2.fst.fst ≤ (20000 : Int)) ∧ ((0 : Int) ≤ y.2.fst.snd ∧ y.2.fst.snd ≤ (10000 : Int)) ∧ List.length y.2.snd = y.fst) ∧ (257 : Nat) - y.fst < (257 : Nat) - x_2.fst) ∧ (false = false → true = true ∧ [] = (runF x s).fst ∧ (↑x_2.1 : Int) = (runF x s).snd.fst ∧ (30 : Int) = (runF x s).snd.snd)) ∧ (decide (x.snd.fst < x_2.2.1.fst) = false → (List.length x_2.2.2 + (1 : Nat)) * (16 : Nat) ≤ (140737488355328 : Nat) ∧ ((bif x_2.2.1.snd == (0 : Int) then decide (x_2.2.1.fst ≤ x.fst) else false) = true → (false = true → (((-100000 : Int) ≤ x_2.2.1.fst ∧ x_2.2.1.fst ≤ (100000 : Int)) ∧ ((-100000 : Int) ≤ x_2.2.1.snd ∧ x_2.2.1.snd ≤ (100000 : Int)) ∧ ((-100000 : Int) ≤ x.snd.snd.fst ∧ x.snd.snd.fst ≤ (100000 : Int)) ∧ (-100000 : Int) ≤ x.snd.snd.snd ∧ x.snd.snd.snd ≤ (100000 : Int)) ∧ ((-9223372036854775808 : Int) ≤ (↑x_2.1 : Int) + (1 : Int) ∧ (↑x_2.1 : Int) + (1 : Int) ≤ (9223372036854775807 : Int)) ∧ ∃ (y : Nat × (Int × Int) × List (Int × Int)), False ∧ (y.fst ≤ (257 : Nat) ∧ runE x s = (0 : Int) ∧ runF x s = runGo x ((257 : Nat) - y.fst) (↑y.fst : Int) y.2.fst y.2.snd ∧ ((0 : Int) ≤ y.2.fst.fst ∧ y.2.fst.fst ≤ (20000 : Int)) ∧ ((0 : Int) ≤ y.2.fst.snd ∧ y.2.fst.snd ≤ (10000 : Int)) ∧ List.length y.2.snd = y.fst) ∧ (257 : Nat) - y.fst < (257 : Nat) - x_2.fst) ∧ (false = false → true = true ∧ x_2.2.2 ++ [(x_2.2.1.fst, x_2.2.1.snd)] = (runF x s).fst ∧ (0 : Int) = (runF x s).snd.fst ∧ (0 : Int) = (runF x s).snd.snd)) ∧ ((bif x_2.2.1.snd == (0 : Int) then decide (x_2.2.1.fst ≤ x.fst) else false) = false → (true = true → (((-100000 : Int) ≤ x_2.2.1.fst ∧ x_2.2.1.fst ≤ (100000 : Int)) ∧ ((-100000 : Int) ≤ x_2.2.1.snd ∧ x_2.2.1.snd ≤ (100000 : Int)) ∧ ((-100000 : Int) ≤ x.snd.snd.fst ∧ x.snd.snd.fst ≤ (100000 : Int)) ∧ (-100000 : Int) ≤ x.snd.snd.snd ∧ x.snd.snd.snd ≤ (100000 : Int)) ∧ ((-9223372036854775808 : Int) ≤ (↑x_2.1 : Int) + (1 : Int) ∧ (↑x_2.1 : Int) + (1 : Int) ≤ (9223372036854775807 : Int)) ∧ ∃ (y : Nat × (Int × Int) × List (Int × Int)), ((↑x_2.1 : Int) + (1 : Int) = (↑y.1 : Int) ∧ x.fst = x.fst ∧ x.snd.fst = x.snd.fst ∧ x.snd.snd.fst = x.snd.snd.fst ∧ x.snd.snd.snd = x.snd.snd.snd ∧ Value.slice none (0 : Nat) (0 : Nat) = Value.slice none (0 : Nat) (0 : Nat) ∧ (0 : Int) = (0 : Int) ∧ (0 : Int) = (0 : Int) ∧ x.fst = x.fst ∧ x.snd.fst = x.snd.fst ∧ x.snd.snd.fst = x.snd.snd.fst ∧ x.snd.snd.snd = x.snd.snd.snd ∧ (nextT (x.fst, x.snd.fst, x.snd.snd.fst, x.snd.snd.snd) (x_2.2.1.fst, x_2.2.1.snd)).fst = y.2.1.fst ∧ (nextT (x.fst, x.snd.fst, x.snd.snd.fst, x.snd.snd.snd) (x_2.2.1.fst, x_2.2.1.snd)).snd = y.2.1.snd ∧ x_2.2.2 ++ [(x_2.2.1.fst, x_2.2.1.snd)] = y.2.2) ∧ (y.fst ≤ (257 : Nat) ∧ runE x s = (0 : Int) ∧ runF x s = runGo x ((257 : Nat) - y.fst) (↑y.fst : Int) y.2.fst y.2.snd ∧ ((0 : Int) ≤ y.2.fst.fst ∧ y.2.fst.fst ≤ (20000 : Int)) ∧ ((0 : Int) ≤ y.2.fst.snd ∧ y.2.fst.snd ≤ (10000 : Int)) ∧ List.length y.2.snd = y.fst) ∧ (257 : Nat) - y.fst < (257 : Nat) - x_2.fst) ∧ (true = false → true = true ∧ [] = (runF x s).fst ∧ (0 : Int) = (runF x s).snd.fst ∧ (20 : Int) = (runF x s).snd.snd)))))) := by
  intros
  kernel_rfl
theorem wp70 (x : TrT) (s : Int × Int) : wpFG Tryz.prog G109 (na ()) (fun f id => if f = 166 then some (annRun x s) else none) (Sx.look ([(142, Tryz.f142), (166, Tryz.f166)] : List (Nat × Func))) Tryz.f70 cRun (x, s, ()) := by
  refine (vc70 x s).mpr ?_
  have hE : firstS [tripS (x.fst, x.snd.fst, x.snd.snd.fst, x.snd.snd.snd), withinS s.fst 0 x.snd.fst, withinS s.snd 0 10000] = runE x s := rfl
  rw [hE]
  refine ⟨by omega, fun h => ?_, fun h => ?_⟩
  · have h' := bne_iff_ne.1 h
    have e : runF x s = ([], 0, runE x s) := by unfold runF; rw [if_pos h']
    rw [e]
    exact ⟨rfl, rfl, rfl, rfl⟩
  have h' := bne_eq_false_iff_eq.1 h
  obtain ⟨t0, t1, t2⟩ := runE_facts h'
  obtain ⟨b1, b2, b3, b4⟩ := trip_facts t0
  have e0 : runF x s = runGo x 257 0 s [] := by unfold runF; rw [if_neg (by simpa using h')]
  refine ⟨((0 : Nat), s, []), ⟨by simp, rfl, rfl, rfl, rfl, rfl, rfl, rfl, rfl, rfl, rfl, rfl, rfl, rfl, rfl⟩, ⟨Nat.zero_le _, h', e0, ⟨t1.1, Int.le_trans t1.2 (Int.le_trans b2.2 (by decide))⟩, t2, rfl⟩, ?_⟩
  rintro ⟨k, q, out⟩ ⟨i1, i2, i3, i4, i5, i6⟩
  simp only at i1 i3 i4 i5 i6
  refine ⟨fun c => ⟨fun f => (by cases f), fun _ => ?_⟩, fun c => ⟨fun d => ⟨fun f => (by cases f), fun _ => ?_⟩, fun d => ⟨?_, fun e => ⟨fun f => (by cases f), fun _ => ?_⟩, fun e => ⟨fun _ => ?_, fun f => (by cases f)⟩⟩⟩⟩
  · have c' := of_decide_eq_true c
    have hk : k = 257 := by simp only at c'; omega
    subst hk
    rw [i3]
    exact ⟨rfl, rfl, rfl, rfl⟩
  · have c' := of_decide_eq_false c
    have d' := of_decide_eq_true d
    simp only at c' d'
    obtain ⟨m, hm⟩ : ∃ m, 257 - k = m + 1 := ⟨256 - k, by omega⟩
    rw [i3, hm]
    unfold runGo
    rw [if_pos d']
    exact ⟨rfl, rfl, rfl, rfl⟩
  · simp only [i6]; omega
  · have c' := of_decide_eq_false c
    have d' := of_decide_eq_false d
    simp only at c' d' e
    have e' : q.2 = 0 ∧ q.1 ≤ x.1 := by
      cases hq : q.2 == 0 with
      | true => rw [hq] at e; exact ⟨eq_of_beq hq, of_decide_eq_true e⟩
      | false => rw [hq] at e; cases e
    obtain ⟨m, hm⟩ : ∃ m, 257 - k = m + 1 := ⟨256 - k, by omega⟩
    rw [i3, hm]
    unfold runGo
    rw [if_neg d', if_pos e']
    exact ⟨rfl, rfl, rfl, rfl⟩
  · have c' := of_decide_eq_false c
    have d' := of_decide_eq_false d
    simp only at c' d' e
    have e' : ¬ (q.2 = 0 ∧ q.1 ≤ x.1) := by
      rintro ⟨e1, e2⟩
      rw [show (q.2 == 0) = true by rw [e1]; rfl] at e
      exact absurd e2 (of_decide_eq_false e)
    obtain ⟨m, hm⟩ : ∃ m, 257 - k = m + 1 := ⟨256 - k, by omega⟩
    have hn1 : 0 ≤ (nextT x q).1 ∧ (nextT x q).1 ≤ 20000 := by
      unfold nextT
      simp only
      split <;> omega
    have hn2 : 0 ≤ (nextT x q).2 ∧ (nextT x q).2 ≤ 10000 := by
      unfold nextT
      simp only
      omega
    refine ⟨⟨⟨by simp only; omega, by simp only; omega⟩, ⟨by simp only; omega, by simp only; omega⟩, ⟨by omega, by omega⟩, by omega, by omega⟩, ⟨by simp only; omega, by simp only; omega⟩, ((k + 1 : Nat), nextT x q, out ++ [q]), ⟨by simp, rfl, rfl, rfl, rfl, rfl, rfl, rfl, rfl, rfl, rfl, rfl, rfl, rfl, rfl⟩, ⟨by simp only; omega, h', ?_, hn1, hn2, by simp [i6]⟩, by simp only; omega⟩
    rw [i3, hm]
    conv => lhs; unfold runGo
    rw [if_neg d', if_neg e', show 257 - (k + 1) = m by omega]
    simp
theorem ok70 : Ok Tryz.prog 70 cRun := ok_of_wpG mixed g109 (by kernel_rfl) (by kernel_rfl) (lib_ok (List.forall_mem_cons.2 ⟨by kernel_rfl, List.forall_mem_cons.2 ⟨by kernel_rfl, by simp⟩⟩)) (fun xx => na ()) (fun xx => fun f id => if f = 166 then some (annRun xx.1 xx.2.1) else none) fun xx => wp70 xx.1 xx.2.1
abbrev G110 : Gam := (70, cRun) :: G109
theorem g110 : GamOk Tryz.prog G110 := .cons ok70 g109
end Go.Proofs.YtacaadhlobbemaaGreatDoor
namespace Go.Proofs.YtacaadhlobbemaaGreatDoor
open Go.Sx
def stpS (fr : Int) (l : List (Int × Int)) (i : Int) : StT := (stepsS fr l).getD i.toNat ((0, 0), 0, 0)
theorem stepsGo_get : ∀ {l : List (Int × Int)} {q : Int × Int} {k : Nat}, k < l.length →
    (stepsGo l q).getD k ((0, 0), 0, 0) = (l.getD k (0, 0), (if k = 0 then q else l.getD (k - 1) (0, 0)).2, (if k = 0 then q else l.getD (k - 1) (0, 0)).1)
  | [], _, _, h => by simp at h
  | x :: r, q, 0, _ => by simp [stepsGo]
  | x :: r, q, k + 1, h => by
    have hk : k < r.length := by simpa using h
    have ih := stepsGo_get (q := x) hk
    have e : (stepsGo (x :: r) q).getD (k + 1) ((0, 0), 0, 0) = (stepsGo r x).getD k ((0, 0), 0, 0) := by simp [stepsGo]
    rw [e, ih]
    cases k with
    | zero => simp
    | succ j => simp
theorem stp_eq {fr : Int} {l : List (Int × Int)} {i : Int} (h : 0 ≤ i ∧ i < l.length) : stpS fr l i = (l.getD i.toNat (0, 0), (if i = 0 then (0, fr) else l.getD (i - 1).toNat (0, 0)).2, (if i = 0 then (0, fr) else l.getD (i - 1).toNat (0, 0)).1) := by
  have := stepsGo_get (l := l) (q := (0, fr)) (k := i.toNat) (by omega)
  unfold stpS stepsS
  rw [this]
  by_cases h0 : i = 0
  · subst h0; rfl
  · rw [if_neg h0, if_neg (by omega : ¬ i.toNat = 0), show i.toNat - 1 = (i - 1).toNat by omega]
def cStart : Con := { args := [aI, aL 142, aI], ress := [I, I], owns := [], pre := fun (_, l, i, _) => [0 ≤ i ∧ i < l.length, l.length ≤ 1000], spec := fun (fr, l, i, _) => ((stpS fr l i).2.2, (stpS fr l i).2.1, ()) }
theorem vc141 : ∀ (fr : Int) (l : List (Int × Int)) (i : Int), wpF Tryz.prog G110 (na ()) Tryz.f141 cStart (fr, l, i, ()) = ((0 : Int) ≤ i ∧ i < (↑(List.length l) : Int) → List.length l ≤ (1000 : Nat) → ((i == (0 : Int)) = true → (0 : Int) = (stpS fr l i).snd.snd ∧ fr = (stpS fr l i).snd.fst) ∧ ((i == (0 : Int)) = false → (((-9223372036854775808 : Int) ≤ i - (1 : Int) ∧ i - (1 : Int) ≤ (9223372036854775807 : Int)) ∧ ((0 : Int) ≤ i - (1 : Int) ∧ i - (1 : Int) < (↑(List.length l) : Int)) ∧ ((0 : Int) ≤ i - (1 : Int) ∧ i - (1 : Int) < (↑(List.length l) : Int)) ∧ ((-9223372036854775808 : Int) ≤ i - (1 : Int) ∧ i - (1 : Int) ≤ (9223372036854775807 : Int)) ∧ ((0 : Int) ≤ i - (1 : Int) ∧ i - (1 : Int) < (↑(List.length l) : Int)) ∧ (0 : Int) ≤ i - (1 : Int) ∧ i - (1 : Int) < (↑(List.length l) : Int)) ∧ (List.getD l (Int.toNat (i - (1 : Int))) ((0 : Int), (0 : Int))).fst = (stpS fr l i).snd.snd ∧ (List.getD l (Int.toNat (i - (1 : Int))) ((0 : Int), (0 : Int))).snd = (stpS fr l i).snd.fst)) := by
  intros
  kernel_rfl
theorem wp141 (fr : Int) (l : List (Int × Int)) (i : Int) : wpF Tryz.prog G110 (na ()) Tryz.f141 cStart (fr, l, i, ()) := by
  refine (vc141 fr l i).mpr ?_
  intro h1 h2
  rw [stp_eq h1]
  refine ⟨fun h => ?_, fun h => ?_⟩
  · have h0 : i = 0 := by simpa using h
    simp only [if_pos h0, and_self]
  · have h0 : i ≠ 0 := by simpa using h
    simp only [if_neg h0, and_self, and_true]
    omega
theorem ok141 : Ok Tryz.prog 141 cStart := ok_of_wp mixed g110 (by kernel_rfl) (by kernel_rfl) na fun xx => wp141 xx.1 xx.2.1 xx.2.2.1
abbrev G111 : Gam := (141, cStart) :: G110
theorem g111 : GamOk Tryz.prog G111 := .cons ok141 g110
theorem stp_ok {x : Int × Int × Int} {fr : Int} {l : List (Int × Int)} {i : Int} (h : rampE x fr l = 0) (hi : 0 ≤ i ∧ i < l.length) : stepOk (stpS fr l i) ∧ ruleOk x ∧ l.length ≤ 32 ∧ (stpS fr l i).1 = l.getD i.toNat (0, 0) := by
  obtain ⟨r1, r2, r3, r4, r5, r6⟩ := rampE_zero h
  refine ⟨r4 _ (getD_mem (by rw [r5]; omega)), r1, r6, ?_⟩
  rw [stp_eq hi]
def cRefuses : Con := { args := [a3, aI, aL 142, aI], ress := [I], owns := [], pre := fun (x, fr, l, i, _) => [rampE x fr l = 0, 0 ≤ i ∧ i < l.length], spec := fun (x, fr, l, i, _) => (refusedS x (stpS fr l i), ()) }
theorem vc140 : ∀ (x : Int × Int × Int) (fr : Int) (l : List (Int × Int)) (i : Int), wpF Tryz.prog G111 (na ()) Tryz.f140 cRefuses (x, fr, l, i, ()) = (rampE x fr l = (0 : Int) → (0 : Int) ≤ i ∧ i < (↑(List.length l) : Int) → (((0 : Int) ≤ i ∧ i < (↑(List.length l) : Int)) ∧ List.length l ≤ (1000 : Nat)) ∧ (((0 : Int) ≤ i ∧ i < (↑(List.length l) : Int)) ∧ (0 : Int) ≤ i ∧ i < (↑(List.length l) : Int)) ∧ ((withinS (List.getD l (Int.toNat i) ((0 : Int), (0 : Int))).snd x.snd.fst x.snd.snd != (0 : Int)) = true → (30 : Int) = refusedS x (stpS fr l i)) ∧ ((withinS (List.getD l (Int.toNat i) ((0 : Int), (0 : Int))).snd x.snd.fst x.snd.snd != (0 : Int)) = false → (((0 : Int) ≤ i ∧ i < (↑(List.length l) : Int)) ∧ ((0 : Int) ≤ i ∧ i < (↑(List.length l) : Int)) ∧ ((-9223372036854775808 : Int) ≤ (List.getD l (Int.toNat i) ((0 : Int), (0 : Int))).snd - (stpS fr l i).snd.fst ∧ (List.getD l (Int.toNat i) ((0 : Int), (0 : Int))).snd - (stpS fr l i).snd.fst ≤ (9223372036854775807 : Int)) ∧ ((0 : Int) ≤ i ∧ i < (↑(List.length l) : Int)) ∧ ((0 : Int) ≤ i ∧ i < (↑(List.length l) : Int)) ∧ ((-9223372036854775808 : Int) ≤ (stpS fr l i).snd.fst - (List.getD l (Int.toNat i) ((0 : Int), (0 : Int))).snd ∧ (stpS fr l i).snd.fst - (List.getD l (Int.toNat i) ((0 : Int), (0 : Int))).snd ≤ (9223372036854775807 : Int)) ∧ ((0 : Int) ≤ i ∧ i < (↑(List.length l) : Int)) ∧ ((0 : Int) ≤ i ∧ i < (↑(List.length l) : Int)) ∧ ((-9223372036854775808 : Int) ≤ (List.getD l (Int.toNat i) ((0 : Int), (0 : Int))).fst - (stpS fr l i).snd.snd ∧ (List.getD l (Int.toNat i) ((0 : Int), (0 : Int))).fst - (stpS fr l i).snd.snd ≤ (9223372036854775807 : Int)) ∧ (-9223372036854775808 : Int) ≤ x.fst * ((List.getD l (Int.toNat i) ((0 : Int), (0 : Int))).fst - (stpS fr l i).snd.snd) ∧ x.fst * ((List.getD l (Int.toNat i) ((0 : Int), (0 : Int))).fst - (stpS fr l i).snd.snd) ≤ (9223372036854775807 : Int)) ∧ (decide (x.fst * ((List.getD l (Int.toNat i) ((0 : Int), (0 : Int))).fst - (stpS fr l i).snd.snd) < max ((List.getD l (Int.toNat i) ((0 : Int), (0 : Int))).snd - (stpS fr l i).snd.fst) ((stpS fr l i).snd.fst - (List.getD l (Int.toNat i) ((0 : Int), (0 : Int))).snd)) = true → (21 : Int) = refusedS x (stpS fr l i)) ∧ (decide (x.fst * ((List.getD l (Int.toNat i) ((0 : Int), (0 : Int))).fst - (stpS fr l i).snd.snd) < max ((List.getD l (Int.toNat i) ((0 : Int), (0 : Int))).snd - (stpS fr l i).snd.fst) ((stpS fr l i).snd.fst - (List.getD l (Int.toNat i) ((0 : Int), (0 : Int))).snd)) = false → (0 : Int) = refusedS x (stpS fr l i)))) := by
  intros
  kernel_rfl
theorem wp140 (x : Int × Int × Int) (fr : Int) (l : List (Int × Int)) (i : Int) : wpF Tryz.prog G111 (na ()) Tryz.f140 cRefuses (x, fr, l, i, ()) := by
  refine (vc140 x fr l i).mpr ?_
  intro h1 h2
  obtain ⟨s1, s2, s3, s4⟩ := stp_ok h1 h2
  unfold refusedS changeS
  rw [← s4]
  generalize stpS fr l i = s at *
  obtain ⟨b1, b2, b3, b4⟩ := s1
  have c1 := s2.1
  have m1 := mul_bd (a := x.1) (b := s.1.1 - s.2.2) (A := 1000) (B := 100000) ⟨by omega, by omega⟩ ⟨by omega, by omega⟩
  generalize x.1 * (s.1.1 - s.2.2) = m at *
  have hw : (withinS s.1.2 x.2.1 x.2.2 != 0) = (decide (s.1.2 < x.2.1) || decide (x.2.2 < s.1.2)) := by
    unfold withinS
    cases (decide (s.1.2 < x.2.1) || decide (x.2.2 < s.1.2)) <;> rfl
  rw [hw]
  refine ⟨by omega, by omega, fun h => ?_, fun h => ⟨by omega, fun h3 => ?_, fun h3 => ?_⟩⟩
  · rw [h]; rfl
  · rw [h, h3]; rfl
  · rw [h, h3]; rfl
theorem ok140 : Ok Tryz.prog 140 cRefuses := ok_of_wp mixed g111 (by kernel_rfl) (by kernel_rfl) na fun xx => wp140 xx.1 xx.2.1 xx.2.2.1 xx.2.2.2.1
abbrev G112 : Gam := (140, cRefuses) :: G111
theorem g112 : GamOk Tryz.prog G112 := .cons ok140 g111
def cRCheckRamp : Con := { args := [a3, aI, aL 142], ress := [I], owns := [], pre := fun _ => [], spec := fun (x, fr, l, _) => (rampE x fr l, ()) }
theorem vc63 : ∀ (x : Int × Int × Int) (fr : Int) (l : List (Int × Int)), wpF Tryz.prog G112 (na ()) Tryz.f63 cRCheckRamp (x, fr, l, ()) = (((rulesS (x.fst, x.snd.fst, x.snd.snd) != (0 : Int)) = true → rulesS (x.fst, x.snd.fst, x.snd.snd) = rampE x fr l) ∧ ((rulesS (x.fst, x.snd.fst, x.snd.snd) != (0 : Int)) = false → (2 : Nat) ≤ (1000000 : Nat) ∧ firstS [withinS fr x.snd.fst x.snd.snd, ordersS l] = rampE x fr l)) := by
  intros
  kernel_rfl
theorem wp63 (x : Int × Int × Int) (fr : Int) (l : List (Int × Int)) : wpF Tryz.prog G112 (na ()) Tryz.f63 cRCheckRamp (x, fr, l, ()) := by
  refine (vc63 x fr l).mpr ?_
  change ((rulesS x != 0) = true → rulesS x = _) ∧ ((rulesS x != 0) = false → _)
  unfold rampE
  refine ⟨fun h => ?_, fun h => ⟨by omega, ?_⟩⟩
  · have h0 := bne_iff_ne.1 h
    simp [firstS, h0]
  · have h0 := bne_eq_false_iff_eq.1 h
    rw [h0]
    simp [firstS]
theorem ok63 : Ok Tryz.prog 63 cRCheckRamp := ok_of_wp mixed g112 (by kernel_rfl) (by kernel_rfl) na fun xx => wp63 xx.1 xx.2.1 xx.2.2.1
abbrev G113 : Gam := (63, cRCheckRamp) :: G112
theorem g113 : GamOk Tryz.prog G113 := .cons ok63 g112
def cRRefused : Con := { args := [a3, aI, aL 142], ress := [I, Bo, I], owns := [], pre := fun (x, fr, l, _) => [rampE x fr l = 0], spec := fun (x, fr, l, _) => (max 0 (refIdx x fr l), decide (0 ≤ refIdx x fr l), refE x fr l, ()) }
abbrev annRRefused (x : Int × Int × Int) (fr : Int) (l : List (Int × Int)) : Ann := { X := Nat, σ := fun k => ⟨2, [(1, .one (.int .i64 fr)), (2, .one (.sl 0)), (3, .one (.ptr 1 0)), (9, .one (.int .i64 k))], [(0, .imm 142 sPt l), (1, .box 96 [.int .i64 x.1, .int .i64 x.2.1, .int .i64 x.2.2])]⟩, inv := fun k => k ≤ l.length ∧ rampE x fr l = 0 ∧ refIdx x fr l = idxS (fun s => refusedS x s != 0) ((stepsS fr l).drop k) k ∧ refE x fr l = firstS (((stepsS fr l).drop k).map (refusedS x)), mu := fun k => l.length - k }
theorem vc64 : ∀ (x : Int × Int × Int) (fr : Int) (l : List (Int × Int)), wpF Tryz.prog G113 (ann0 (annRRefused x fr l)) Tryz.f64 cRRefused (x, fr, l, ()) = (rampE x fr l = (0 : Int) → ∃ (x_1 : Nat), (fr = fr ∧ (0 : Int) = (↑x_1 : Int) ∧ l = l ∧ x.fst = x.fst ∧ x.snd.fst = x.snd.fst ∧ x.snd.snd = x.snd.snd) ∧ (x_1 ≤ List.length l ∧ rampE x fr l = (0 : Int) ∧ refIdx x fr l = idxS (fun (s : StT) => refusedS x s != (0 : Int)) (List.drop x_1 (stepsS fr l)) (↑x_1 : Int) ∧ refE x fr l = firstS (List.map (refusedS x) (List.drop x_1 (stepsS fr l)))) ∧ ∀ (x_2 : Nat), x_2 ≤ List.length l ∧ rampE x fr l = (0 : Int) ∧ refIdx x fr l = idxS (fun (s : StT) => refusedS x s != (0 : Int)) (List.drop x_2 (stepsS fr l)) (↑x_2 : Int) ∧ refE x fr l = firstS (List.map (refusedS x) (List.drop x_2 (stepsS fr l))) → (decide ((↑x_2 : Int) < (↑(List.length l) : Int)) = true → (rampE (x.fst, x.snd.fst, x.snd.snd) fr l = (0 : Int) ∧ (0 : Int) ≤ (↑x_2 : Int) ∧ (↑x_2 : Int) < (↑(List.length l) : Int)) ∧ ((refusedS (x.fst, x.snd.fst, x.snd.snd) (stpS fr l (↑x_2 : Int)) != (0 : Int)) = true → (↑x_2 : Int) = max (0 : Int) (refIdx x fr l) ∧ true = decide ((0 : Int) ≤ refIdx x fr l) ∧ refusedS (x.fst, x.snd.fst, x.snd.snd) (stpS fr l (↑x_2 : Int)) = refE x fr l) ∧ ((refusedS (x.fst, x.snd.fst, x.snd.snd) (stpS fr l (↑x_2 : Int)) != (0 : Int)) = false → ((-9223372036854775808 : Int) ≤ (↑x_2 : Int) + (1 : Int) ∧ (↑x_2 : Int) + (1 : Int) ≤ (9223372036854775807 : Int)) ∧ ∃ (y : Nat), (fr = fr ∧ (↑x_2 : Int) + (1 : Int) = (↑y : Int) ∧ l = l ∧ x.fst = x.fst ∧ x.snd.fst = x.snd.fst ∧ x.snd.snd = x.snd.snd) ∧ (y ≤ List.length l ∧ rampE x fr l = (0 : Int) ∧ refIdx x fr l = idxS (fun (s : StT) => refusedS x s != (0 : Int)) (List.drop y (stepsS fr l)) (↑y : Int) ∧ refE x fr l = firstS (List.map (refusedS x) (List.drop y (stepsS fr l)))) ∧ List.length l - y < List.length l - x_2)) ∧ (decide ((↑x_2 : Int) < (↑(List.length l) : Int)) = false → (0 : Int) = max (0 : Int) (refIdx x fr l) ∧ false = decide ((0 : Int) ≤ refIdx x fr l) ∧ (0 : Int) = refE x fr l)) := by
  intros
  kernel_rfl
theorem wp64 (x : Int × Int × Int) (fr : Int) (l : List (Int × Int)) : wpF Tryz.prog G113 (ann0 (annRRefused x fr l)) Tryz.f64 cRRefused (x, fr, l, ()) := by
  refine (vc64 x fr l).mpr ?_
  intro h1
  obtain ⟨_, _, _, _, r5, r6⟩ := rampE_zero h1
  refine ⟨(0 : Nat), by simp, ⟨Nat.zero_le _, h1, rfl, rfl⟩, fun (k : Nat) hk => ⟨fun h => ?_, fun h => ?_⟩⟩
  · have hlt : k < l.length := by simpa using h
    obtain ⟨i1, i2, i3, i4⟩ := hk
    have hd := idxS_drop (f := fun s => refusedS x s != 0) (l := stepsS fr l) (k := k) (d := ((0, 0), 0, 0)) (by omega)
    have hd2 : ((stepsS fr l).drop k).map (refusedS x) = refusedS x (stpS fr l k) :: ((stepsS fr l).drop (k + 1)).map (refusedS x) := by
      have hk' : k < (stepsS fr l).length := by omega
      rw [List.drop_eq_getElem_cons hk', List.map_cons]
      unfold stpS
      rw [Int.toNat_natCast, List.getD_eq_getElem?_getD, List.getElem?_eq_getElem hk']
      rfl
    rw [i3, i4, hd, hd2]
    change _ ∧ ((refusedS x (stpS fr l k) != 0) = true → _) ∧ ((refusedS x (stpS fr l k) != 0) = false → _)
    have es : (stepsS fr l).getD k ((0, 0), 0, 0) = stpS fr l k := rfl
    rw [es]
    refine ⟨⟨h1, by omega⟩, fun h2 => ?_, fun h2 => ⟨by omega, (k + 1 : Nat), ⟨rfl, by simp, rfl, rfl, rfl, rfl⟩, ⟨by omega, h1, ?_, ?_⟩, by omega⟩⟩
    · rw [if_pos h2]
      refine ⟨by omega, by simp, ?_⟩
      have h0 := bne_iff_ne.1 h2
      simp only [firstS]
      rw [if_neg h0]
    · rw [h2]; rfl
    · have h0 := bne_eq_false_iff_eq.1 h2
      simp only [firstS]
      rw [if_pos h0]
  · have hlt : ¬ k < l.length := by simpa using h
    obtain ⟨i1, i2, i3, i4⟩ := hk
    rw [List.drop_eq_nil_of_le (by omega)] at i3 i4
    rw [i3, i4]
    exact ⟨rfl, rfl, rfl⟩
theorem ok64 : Ok Tryz.prog 64 cRRefused := ok_of_wp mixed g113 (by kernel_rfl) (by kernel_rfl) (fun xx => ann0 (annRRefused xx.1 xx.2.1 xx.2.2.1)) fun xx => wp64 xx.1 xx.2.1 xx.2.2.1
abbrev G114 : Gam := (64, cRRefused) :: G113
theorem g114 : GamOk Tryz.prog G114 := .cons ok64 g113
def cRRamp : Con := { args := [a3, aI, aL 142, aI], ress := [I], owns := [], pre := fun (x, fr, l, t, _) => [rampE x fr l = 0, 0 ≤ t ∧ t ≤ 100000], spec := fun (x, fr, l, t, _) => (rampTS x fr l t, ()) }
abbrev annRRamp (x : Int × Int × Int) (fr : Int) (l : List (Int × Int)) (t : Int) : Ann := { X := Nat, σ := fun k => ⟨2, [(1, .one (.int .i64 fr)), (2, .one (.sl 0)), (3, .one (.int .i64 t)), (4, .one (.ptr 1 0)), (9, .one (.int .i64 k))], [(0, .imm 142 sPt l), (1, .box 96 [.int .i64 x.1, .int .i64 x.2.1, .int .i64 x.2.2])]⟩, inv := fun k => k ≤ l.length ∧ rampE x fr l = 0 ∧ (0 ≤ t ∧ t ≤ 100000) ∧ idxS (fun s : StT => decide (t ≤ s.1.1)) (stepsS fr l) 0 = idxS (fun s : StT => decide (t ≤ s.1.1)) ((stepsS fr l).drop k) k, mu := fun k => l.length - k }
theorem vc65 : ∀ (x : Int × Int × Int) (fr : Int) (l : List (Int × Int)) (t : Int), wpF Tryz.prog G114 (ann0 (annRRamp x fr l t)) Tryz.f65 cRRamp (x, fr, l, t, ()) = (rampE x fr l = (0 : Int) → (0 : Int) ≤ t ∧ t ≤ (100000 : Int) → ∃ (x_1 : Nat), (fr = fr ∧ t = t ∧ (0 : Int) = (↑x_1 : Int) ∧ l = l ∧ x.fst = x.fst ∧ x.snd.fst = x.snd.fst ∧ x.snd.snd = x.snd.snd) ∧ (x_1 ≤ List.length l ∧ rampE x fr l = (0 : Int) ∧ ((0 : Int) ≤ t ∧ t ≤ (100000 : Int)) ∧ idxS (fun (s : StT) => decide (t ≤ s.fst.fst)) (stepsS fr l) (0 : Int) = idxS (fun (s : StT) => decide (t ≤ s.fst.fst)) (List.drop x_1 (stepsS fr l)) (↑x_1 : Int)) ∧ ∀ (x_2 : Nat), x_2 ≤ List.length l ∧ rampE x fr l = (0 : Int) ∧ ((0 : Int) ≤ t ∧ t ≤ (100000 : Int)) ∧ idxS (fun (s : StT) => decide (t ≤ s.fst.fst)) (stepsS fr l) (0 : Int) = idxS (fun (s : StT) => decide (t ≤ s.fst.fst)) (List.drop x_2 (stepsS fr l)) (↑x_2 : Int) → (decide ((↑x_2 : Int) < (↑(List.length l) : Int)) = true → (((0 : Int) ≤ (↑x_2 : Int) ∧ (↑x_2 : Int) < (↑(List.length l) : Int)) ∧ (0 : Int) ≤ (↑x_2 : Int) ∧ (↑x_2 : Int) < (↑(List.length l) : Int)) ∧ (decide ((List.getD l x_2 ((0 : Int), (0 : Int))).fst < t) = true → ((-9223372036854775808 : Int) ≤ (↑x_2 : Int) + (1 : Int) ∧ (↑x_2 : Int) + (1 : Int) ≤ (9223372036854775807 : Int)) ∧ ∃ (y : Nat), (fr = fr ∧ t = t ∧ (↑x_2 : Int) + (1 : Int) = (↑y : Int) ∧ l = l ∧ x.fst = x.fst ∧ x.snd.fst = x.snd.fst ∧ x.snd.snd = x.snd.snd) ∧ (y ≤ List.length l ∧ rampE x fr l = (0 : Int) ∧ ((0 : Int) ≤ t ∧ t ≤ (100000 : Int)) ∧ idxS (fun (s : StT) => decide (t ≤ s.fst.fst)) (stepsS fr l) (0 : Int) = idxS (fun (s : StT) => decide (t ≤ s.fst.fst)) (List.drop y (stepsS fr l)) (↑y : Int)) ∧ List.length l - y < List.length l - x_2) ∧ (decide ((List.getD l x_2 ((0 : Int), (0 : Int))).fst < t) = false → (((0 : Int) ≤ (↑x_2 : Int) ∧ (↑x_2 : Int) < (↑(List.length l) : Int)) ∧ List.length l ≤ (1000 : Nat)) ∧ (((0 : Int) ≤ (↑x_2 : Int) ∧ (↑x_2 : Int) < (↑(List.length l) : Int)) ∧ ((0 : Int) ≤ (↑x_2 : Int) ∧ (↑x_2 : Int) < (↑(List.length l) : Int)) ∧ ((-9223372036854775808 : Int) ≤ (List.getD l x_2 ((0 : Int), (0 : Int))).fst - t ∧ (List.getD l x_2 ((0 : Int), (0 : Int))).fst - t ≤ (9223372036854775807 : Int)) ∧ (-9223372036854775808 : Int) ≤ x.fst * ((List.getD l x_2 ((0 : Int), (0 : Int))).fst - t) ∧ x.fst * ((List.getD l x_2 ((0 : Int), (0 : Int))).fst - t) ≤ (9223372036854775807 : Int)) ∧ (((0 : Int) ≤ (↑x_2 : Int) ∧ (↑x_2 : Int) < (↑(List.length l) : Int)) ∧ (0 : Int) ≤ (↑x_2 : Int) ∧ (↑x_2 : Int) < (↑(List.length l) : Int)) ∧ (decide ((stpS fr l (↑x_2 : Int)).snd.fst < (List.getD l x_2 ((0 : Int), (0 : Int))).snd) = true → (((0 : Int) ≤ (↑x_2 : Int) ∧ (↑x_2 : Int) < (↑(List.length l) : Int)) ∧ ((0 : Int) ≤ (↑x_2 : Int) ∧ (↑x_2 : Int) < (↑(List.length l) : Int)) ∧ (-9223372036854775808 : Int) ≤ (List.getD l x_2 ((0 : Int), (0 : Int))).snd - x.fst * ((List.getD l x_2 ((0 : Int), (0 : Int))).fst - t) ∧ (List.getD l x_2 ((0 : Int), (0 : Int))).snd - x.fst * ((List.getD l x_2 ((0 : Int), (0 : Int))).fst - t) ≤ (9223372036854775807 : Int)) ∧ max (stpS fr l (↑x_2 : Int)).snd.fst ((List.getD l x_2 ((0 : Int), (0 : Int))).snd - x.fst * ((List.getD l x_2 ((0 : Int), (0 : Int))).fst - t)) = rampTS x fr l t) ∧ (decide ((stpS fr l (↑x_2 : Int)).snd.fst < (List.getD l x_2 ((0 : Int), (0 : Int))).snd) = false → (((0 : Int) ≤ (↑x_2 : Int) ∧ (↑x_2 : Int) < (↑(List.length l) : Int)) ∧ ((0 : Int) ≤ (↑x_2 : Int) ∧ (↑x_2 : Int) < (↑(List.length l) : Int)) ∧ (-9223372036854775808 : Int) ≤ (List.getD l x_2 ((0 : Int), (0 : Int))).snd + x.fst * ((List.getD l x_2 ((0 : Int), (0 : Int))).fst - t) ∧ (List.getD l x_2 ((0 : Int), (0 : Int))).snd + x.fst * ((List.getD l x_2 ((0 : Int), (0 : Int))).fst - t) ≤ (9223372036854775807 : Int)) ∧ min (stpS fr l (↑x_2 : Int)).snd.fst ((List.getD l x_2 ((0 : Int), (0 : Int))).snd + x.fst * ((List.getD l x_2 ((0 : Int), (0 : Int))).fst - t)) = rampTS x fr l t))) ∧ (decide ((↑x_2 : Int) < (↑(List.length l) : Int)) = false → (((↑(List.length l) : Int) == (0 : Int)) = true → fr = rampTS x fr l t) ∧ (((↑(List.length l) : Int) == (0 : Int)) = false → (((-9223372036854775808 : Int) ≤ (↑(List.length l) : Int) - (1 : Int) ∧ (↑(List.length l) : Int) - (1 : Int) ≤ (9223372036854775807 : Int)) ∧ ((0 : Int) ≤ (↑(List.length l) : Int) - (1 : Int) ∧ (↑(List.length l) : Int) - (1 : Int) < (↑(List.length l) : Int)) ∧ (0 : Int) ≤ (↑(List.length l) : Int) - (1 : Int) ∧ (↑(List.length l) : Int) - (1 : Int) < (↑(List.length l) : Int)) ∧ (List.getD l (Int.toNat ((↑(List.length l) : Int) - (1 : Int))) ((0 : Int), (0 : Int))).snd = rampTS x fr l t))) := by
  intros
  kernel_rfl
theorem wp65 (x : Int × Int × Int) (fr : Int) (l : List (Int × Int)) (t : Int) : wpF Tryz.prog G114 (ann0 (annRRamp x fr l t)) Tryz.f65 cRRamp (x, fr, l, t, ()) := by
  refine (vc65 x fr l t).mpr ?_
  intro h1 h2
  obtain ⟨_, _, _, _, r5, r6⟩ := rampE_zero h1
  refine ⟨(0 : Nat), by simp, ⟨Nat.zero_le _, h1, h2, rfl⟩, fun (k : Nat) hk => ⟨fun h => ?_, fun h => ?_⟩⟩
  · have hlt : k < l.length := by simpa using h
    obtain ⟨i1, i2, i3, i4⟩ := hk
    have hd := idxS_drop (f := fun s : StT => decide (t ≤ s.1.1)) (l := stepsS fr l) (k := k) (d := ((0, 0), 0, 0)) (by omega)
    have es : (stepsS fr l).getD k ((0, 0), 0, 0) = stpS fr l k := rfl
    rw [es] at hd
    obtain ⟨s1, s2, s3, s4⟩ := stp_ok (i := (k : Int)) h1 (by omega)
    have s4' : l.getD k (0, 0) = (stpS fr l k).1 := s4.symm
    rw [s4']
    have hT : rampTS x fr l t = (let i := idxS (fun s : StT => decide (t ≤ s.1.1)) (stepsS fr l) 0
        if 0 ≤ i then stepAtS ((stepsS fr l).getD i.toNat ((0, 0), 0, 0)) x.1 t else if 0 < (stepsS fr l).length then ((stepsS fr l).getD ((stepsS fr l).length - 1) ((0, 0), 0, 0)).1.2 else fr) := rfl
    rw [i4, hd] at hT
    obtain ⟨b1, b2, b3, b4⟩ := s1
    have c1 := s2.1
    refine ⟨by omega, fun h3 => ⟨by omega, (k + 1 : Nat), ⟨rfl, rfl, by simp, rfl, rfl, rfl, rfl⟩, ⟨by omega, h1, h2, ?_⟩, by omega⟩, fun h3 => ?_⟩
    · have h3' := of_decide_eq_true h3
      rw [i4, hd, if_neg (by simp; omega)]
    · have h3' := of_decide_eq_false h3
      rw [if_pos (decide_eq_true (by omega))] at hT
      simp only at hT
      rw [if_pos (by omega), Int.toNat_natCast, es] at hT
      rw [hT]
      unfold stepAtS
      have m1 := mul_bd (a := x.1) (b := (stpS fr l k).1.1 - t) (A := 1000) (B := 100000) ⟨by omega, by omega⟩ ⟨by omega, by omega⟩
      generalize stpS fr l k = s at *
      generalize x.1 * (s.1.1 - t) = m at *
      refine ⟨by omega, by omega, by omega, fun h4 => ⟨by omega, ?_⟩, fun h4 => ⟨by omega, ?_⟩⟩
      · rw [h4]; rfl
      · rw [h4]; rfl
  · have hlt : ¬ k < l.length := by simpa using h
    obtain ⟨i1, i2, i3, i4⟩ := hk
    rw [List.drop_eq_nil_of_le (by omega)] at i4
    have hT : rampTS x fr l t = (let i := idxS (fun s : StT => decide (t ≤ s.1.1)) (stepsS fr l) 0
        if 0 ≤ i then stepAtS ((stepsS fr l).getD i.toNat ((0, 0), 0, 0)) x.1 t else if 0 < (stepsS fr l).length then ((stepsS fr l).getD ((stepsS fr l).length - 1) ((0, 0), 0, 0)).1.2 else fr) := rfl
    rw [i4] at hT
    have e1 : idxS (fun s : StT => decide (t ≤ s.1.1)) [] k = -1 := rfl
    rw [e1] at hT
    simp only at hT
    rw [if_neg (by omega), r5] at hT
    refine ⟨fun h3 => ?_, fun h3 => ⟨?_, ?_⟩⟩
    · have : l.length = 0 := by simpa using h3
      rw [if_neg (by omega)] at hT
      exact hT.symm
    · have : ¬ (l.length : Int) = 0 := by simpa using h3
      omega
    · have : ¬ (l.length : Int) = 0 := by simpa using h3
      rw [if_pos (by omega)] at hT
      obtain ⟨_, _, _, s4⟩ := stp_ok (i := (l.length : Int) - 1) h1 (by omega)
      rw [← s4, hT]
      unfold stpS
      rw [show ((l.length : Int) - 1).toNat = l.length - 1 by omega]
theorem ok65 : Ok Tryz.prog 65 cRRamp := ok_of_wp mixed g114 (by kernel_rfl) (by kernel_rfl) (fun xx => ann0 (annRRamp xx.1 xx.2.1 xx.2.2.1 xx.2.2.2.1)) fun xx => wp65 xx.1 xx.2.1 xx.2.2.1 xx.2.2.2.1
abbrev G115 : Gam := (65, cRRamp) :: G114
theorem g115 : GamOk Tryz.prog G115 := .cons ok65 g114
def cRLatest : Con := { args := [a3, aI, aL 142, aI], ress := [I], owns := [], pre := fun (x, fr, l, i, _) => [rampE x fr l = 0, 0 ≤ i ∧ i < l.length], spec := fun (x, fr, l, i, _) => ((stpS fr l i).1.1 + (0 - changeS (stpS fr l i)) / x.1, ()) }
theorem vc66 : ∀ (x : Int × Int × Int) (fr : Int) (l : List (Int × Int)) (i : Int), wpF Tryz.prog G115 (na ()) Tryz.f66 cRLatest (x, fr, l, i, ()) = (rampE x fr l = (0 : Int) → (0 : Int) ≤ i ∧ i < (↑(List.length l) : Int) → (((0 : Int) ≤ i ∧ i < (↑(List.length l) : Int)) ∧ List.length l ≤ (1000 : Nat)) ∧ (((0 : Int) ≤ i ∧ i < (↑(List.length l) : Int)) ∧ ((0 : Int) ≤ i ∧ i < (↑(List.length l) : Int)) ∧ ((-9223372036854775808 : Int) ≤ (List.getD l (Int.toNat i) ((0 : Int), (0 : Int))).snd - (stpS fr l i).snd.fst ∧ (List.getD l (Int.toNat i) ((0 : Int), (0 : Int))).snd - (stpS fr l i).snd.fst ≤ (9223372036854775807 : Int)) ∧ ((0 : Int) ≤ i ∧ i < (↑(List.length l) : Int)) ∧ ((0 : Int) ≤ i ∧ i < (↑(List.length l) : Int)) ∧ (-9223372036854775808 : Int) ≤ (stpS fr l i).snd.fst - (List.getD l (Int.toNat i) ((0 : Int), (0 : Int))).snd ∧ (stpS fr l i).snd.fst - (List.getD l (Int.toNat i) ((0 : Int), (0 : Int))).snd ≤ (9223372036854775807 : Int)) ∧ (((0 : Int) ≤ i ∧ i < (↑(List.length l) : Int)) ∧ ((0 : Int) ≤ i ∧ i < (↑(List.length l) : Int)) ∧ ((-9223372036854775808 : Int) ≤ (0 : Int) - max ((List.getD l (Int.toNat i) ((0 : Int), (0 : Int))).snd - (stpS fr l i).snd.fst) ((stpS fr l i).snd.fst - (List.getD l (Int.toNat i) ((0 : Int), (0 : Int))).snd) ∧ (0 : Int) - max ((List.getD l (Int.toNat i) ((0 : Int), (0 : Int))).snd - (stpS fr l i).snd.fst) ((stpS fr l i).snd.fst - (List.getD l (Int.toNat i) ((0 : Int), (0 : Int))).snd) ≤ (9223372036854775807 : Int)) ∧ ((-1000000000000000 : Int) ≤ (0 : Int) - max ((List.getD l (Int.toNat i) ((0 : Int), (0 : Int))).snd - (stpS fr l i).snd.fst) ((stpS fr l i).snd.fst - (List.getD l (Int.toNat i) ((0 : Int), (0 : Int))).snd) ∧ (0 : Int) - max ((List.getD l (Int.toNat i) ((0 : Int), (0 : Int))).snd - (stpS fr l i).snd.fst) ((stpS fr l i).snd.fst - (List.getD l (Int.toNat i) ((0 : Int), (0 : Int))).snd) ≤ (1000000000000000 : Int)) ∧ ((0 : Int) < x.fst ∧ x.fst ≤ (1000000000000000 : Int)) ∧ (-9223372036854775808 : Int) ≤ (List.getD l (Int.toNat i) ((0 : Int), (0 : Int))).fst + ((0 : Int) - max ((List.getD l (Int.toNat i) ((0 : Int), (0 : Int))).snd - (stpS fr l i).snd.fst) ((stpS fr l i).snd.fst - (List.getD l (Int.toNat i) ((0 : Int), (0 : Int))).snd)) / x.fst ∧ (List.getD l (Int.toNat i) ((0 : Int), (0 : Int))).fst + ((0 : Int) - max ((List.getD l (Int.toNat i) ((0 : Int), (0 : Int))).snd - (stpS fr l i).snd.fst) ((stpS fr l i).snd.fst - (List.getD l (Int.toNat i) ((0 : Int), (0 : Int))).snd)) / x.fst ≤ (9223372036854775807 : Int)) ∧ (List.getD l (Int.toNat i) ((0 : Int), (0 : Int))).fst + ((0 : Int) - max ((List.getD l (Int.toNat i) ((0 : Int), (0 : Int))).snd - (stpS fr l i).snd.fst) ((stpS fr l i).snd.fst - (List.getD l (Int.toNat i) ((0 : Int), (0 : Int))).snd)) / x.fst = (stpS fr l i).fst.fst + ((0 : Int) - changeS (stpS fr l i)) / x.fst) := by
  intros
  kernel_rfl
theorem wp66 (x : Int × Int × Int) (fr : Int) (l : List (Int × Int)) (i : Int) : wpF Tryz.prog G115 (na ()) Tryz.f66 cRLatest (x, fr, l, i, ()) := by
  refine (vc66 x fr l i).mpr ?_
  intro h1 h2
  obtain ⟨s1, s2, s3, s4⟩ := stp_ok h1 h2
  unfold changeS
  rw [← s4]
  generalize stpS fr l i = s at *
  obtain ⟨b1, b2, b3, b4⟩ := s1
  have c1 := s2.1
  have d1 : (0 - max (s.1.2 - s.2.1) (s.2.1 - s.1.2)) / x.1 ≤ 0 := Int.ediv_nonpos_of_nonpos_of_neg (by omega) (by omega)
  have d2 : -2000 ≤ (0 - max (s.1.2 - s.2.1) (s.2.1 - s.1.2)) / x.1 := by
    rw [Int.le_ediv_iff_mul_le (by omega)]
    have := Int.mul_le_mul_of_nonpos_left (a := -2000) (b := x.1) (c := 1) (by omega) (by omega)
    omega
  generalize (0 - max (s.1.2 - s.2.1) (s.2.1 - s.1.2)) / x.1 = q at *
  exact ⟨by omega, by omega, by omega, rfl⟩
theorem ok66 : Ok Tryz.prog 66 cRLatest := ok_of_wp mixed g115 (by kernel_rfl) (by kernel_rfl) na fun xx => wp66 xx.1 xx.2.1 xx.2.2.1 xx.2.2.2.1
abbrev G116 : Gam := (66, cRLatest) :: G115
theorem g116 : GamOk Tryz.prog G116 := .cons ok66 g115
end Go.Proofs.YtacaadhlobbemaaGreatDoor
namespace Go.Proofs.YtacaadhlobbemaaGreatDoor
open Go.Sx
set_option maxHeartbeats 20000000
def cSafe : Con := { args := [.val true s4, .val true sPt], ress := [Bo], owns := [], pre := fun _ => [], spec := fun (x, s, _) => (decide (s.2 = 0 ∧ s.1 ≤ x.1), ()) }
theorem vc143 : ∀ (x : TrT) (s : Int × Int), wpF Tryz.prog G116 (na ()) Tryz.f143 cSafe (x, s, ()) = ((bif s.snd == (0 : Int) then decide (s.fst ≤ x.fst) else false) = decide (s.snd = (0 : Int) ∧ s.fst ≤ x.fst)) := by
  intros
  kernel_rfl
theorem wp143 (x : TrT) (s : Int × Int) : wpF Tryz.prog G116 (na ()) Tryz.f143 cSafe (x, s, ()) := by
  refine (vc143 x s).mpr ?_
  by_cases h1 : s.2 = 0 <;> by_cases h2 : s.1 ≤ x.1 <;> simp [h1, h2]
theorem ok143 : Ok Tryz.prog 143 cSafe := ok_of_wp mixed g116 (by kernel_rfl) (by kernel_rfl) na fun xx => wp143 xx.1 xx.2.1
abbrev G117 : Gam := (143, cSafe) :: G116
theorem g117 : GamOk Tryz.prog G117 := .cons ok143 g116
theorem vc144 : ∀ (x : TrT) (s : Int × Int), wpF Tryz.prog G117 (na ()) Tryz.f144 cNext (x, s, ()) = ((-100000 : Int) ≤ s.fst ∧ s.fst ≤ (100000 : Int) → (-100000 : Int) ≤ s.snd ∧ s.snd ≤ (100000 : Int) → (-100000 : Int) ≤ x.snd.snd.fst ∧ x.snd.snd.fst ≤ (100000 : Int) → (-100000 : Int) ≤ x.snd.snd.snd ∧ x.snd.snd.snd ≤ (100000 : Int) → ((-9223372036854775808 : Int) ≤ s.fst + s.snd ∧ s.fst + s.snd ≤ (9223372036854775807 : Int)) ∧ (decide (x.fst < s.fst) = true → ((-9223372036854775808 : Int) ≤ s.fst + s.snd - x.snd.snd.fst ∧ s.fst + s.snd - x.snd.snd.fst ≤ (9223372036854775807 : Int)) ∧ ((-9223372036854775808 : Int) ≤ s.snd - x.snd.snd.snd ∧ s.snd - x.snd.snd.snd ≤ (9223372036854775807 : Int)) ∧ (max (0 : Int) (s.fst + s.snd - x.snd.snd.fst), max (0 : Int) (s.snd - x.snd.snd.snd)) = nextT x s) ∧ (decide (x.fst < s.fst) = false → ((-9223372036854775808 : Int) ≤ s.snd - x.snd.snd.snd ∧ s.snd - x.snd.snd.snd ≤ (9223372036854775807 : Int)) ∧ (max (0 : Int) (s.fst + s.snd), max (0 : Int) (s.snd - x.snd.snd.snd)) = nextT x s)) := by
  intros
  kernel_rfl
theorem wp144 (x : TrT) (s : Int × Int) : wpF Tryz.prog G117 (na ()) Tryz.f144 cNext (x, s, ()) := by
  refine (vc144 x s).mpr ?_
  intro h1 h2 h3 h4
  unfold nextT
  refine ⟨by omega, fun h => ⟨by omega, by omega, ?_⟩, fun h => ⟨by omega, ?_⟩⟩
  · rw [if_pos (of_decide_eq_true h)]
  · rw [if_neg (of_decide_eq_false h), Int.sub_zero]
theorem ok144 : Ok Tryz.prog 144 cNext := ok_of_wp mixed g117 (by kernel_rfl) (by kernel_rfl) na fun xx => wp144 xx.1 xx.2.1
abbrev G118 : Gam := (144, cNext) :: G117
theorem g118 : GamOk Tryz.prog G118 := .cons ok144 g117
def cRState : Con := { args := [.val true s4, .val true sPt], ress := [I], owns := [], pre := fun _ => [], spec := fun (x, s, _) => (runE x s, ()) }
theorem vc88 : ∀ (x : TrT) (s : Int × Int), wpF Tryz.prog G118 (na ()) Tryz.f88 cRState (x, s, ()) = (((tripS (x.fst, x.snd.fst, x.snd.snd.fst, x.snd.snd.snd) != (0 : Int)) = true → tripS (x.fst, x.snd.fst, x.snd.snd.fst, x.snd.snd.snd) = runE x s) ∧ ((tripS (x.fst, x.snd.fst, x.snd.snd.fst, x.snd.snd.snd) != (0 : Int)) = false → (2 : Nat) ≤ (1000000 : Nat) ∧ firstS [withinS s.fst (0 : Int) x.snd.fst, withinS s.snd (0 : Int) (10000 : Int)] = runE x s)) := by
  intros
  kernel_rfl
theorem wp88 (x : TrT) (s : Int × Int) : wpF Tryz.prog G118 (na ()) Tryz.f88 cRState (x, s, ()) := by
  refine (vc88 x s).mpr ?_
  change ((tripS x != 0) = true → tripS x = _) ∧ ((tripS x != 0) = false → _)
  unfold runE
  refine ⟨fun h => ?_, fun h => ⟨by omega, ?_⟩⟩
  · have h0 := bne_iff_ne.1 h
    simp [firstS, h0]
  · have h0 := bne_eq_false_iff_eq.1 h
    rw [h0]
    simp [firstS]
theorem ok88 : Ok Tryz.prog 88 cRState := ok_of_wp mixed g118 (by kernel_rfl) (by kernel_rfl) na fun xx => wp88 xx.1 xx.2.1
abbrev G119 : Gam := (88, cRState) :: G118
theorem g119 : GamOk Tryz.prog G119 := .cons ok88 g118
def cRRun : Con := { args := [.val true s4, .val true sPt], ress := [(false, .list 116 sPt), I, I], owns := [], pre := fun _ => [], spec := fun (x, s, _) => ((runF x s).1, (runF x s).2.1, (runF x s).2.2, ()) }
abbrev annRRun (x : TrT) (s : Int × Int) : Ann := { X := Nat × (Int × Int) × List (Int × Int), σ := fun (k, q, out) => ⟨3, [(2, .one (.ptr 0 0)), (3, .one (.ptr 1 0)), (8, .one (.sl 2)), (9, .one (.int .i64 k))], [(0, .box 114 [.int .i64 x.1, .int .i64 x.2.1, .int .i64 x.2.2.1, .int .i64 x.2.2.2]), (1, .box 116 [.int .i64 q.1, .int .i64 q.2]), (2, .own 116 sPt out)]⟩, inv := fun (k, q, out) => k ≤ 257 ∧ runE x s = 0 ∧ runF x s = runGo x (257 - k) k q out ∧ (0 ≤ q.1 ∧ q.1 ≤ 20000) ∧ (0 ≤ q.2 ∧ q.2 ≤ 10000) ∧ out.length = k, mu := fun (k, _) => 257 - k }
theorem vc71 : ∀ (x : TrT) (s : Int × Int), wpF Tryz.prog G119 (ann0 (annRRun x s)) Tryz.f71 cRRun (x, s, ()) = (((runE (x.fst, x.snd.fst, x.snd.snd.fst, x.snd.snd.snd) (s.fst, s.snd) != (0 : Int)) = true → [] = (runF x s).fst ∧ (0 : Int) = (runF x s).snd.fst ∧ runE (x.fst, x.snd.fst, x.snd.snd.fst, x.snd.snd.snd) (s.fst, s.snd) = (runF x s).snd.snd) ∧ ((runE (x.fst, x.snd.fst, x.snd.snd.fst, x.snd.snd.snd) (s.fst, s.snd) != (0 : Int)) = false → ∃ (x_1 : Nat × (Int × Int) × List (Int × Int)), ((0 : Int) = (↑x_1.1 : Int) ∧ x.fst = x.fst ∧ x.snd.fst = x.snd.fst ∧ x.snd.snd.fst = x.snd.snd.fst ∧ x.snd.snd.snd = x.snd.snd.snd ∧ s.fst = x_1.2.1.fst ∧ s.snd = x_1.2.1.snd ∧ List.length x_1.2.2 = (0 : Nat)) ∧ (x_1.fst ≤ (257 : Nat) ∧ runE x s = (0 : Int) ∧ runF x s = runGo x ((257 : Nat) - x_1.fst) (↑x_1.fst : Int) x_1.2.fst x_1.2.snd ∧ ((0 : Int) ≤ x_1.2.fst.fst ∧ x_1.2.fst.fst ≤ (20000 : Int)) ∧ ((0 : Int) ≤ x_1.2.fst.snd ∧ x_1.2.fst.snd ≤ (10000 : Int)) ∧ List.length x_1.2.snd = x_1.fst) ∧ ∀ (x_2 : Nat × (Int × Int) × List (Int × Int)), x_2.fst ≤ (257 : Nat) ∧ runE x s = (0 : Int) ∧ runF x s = runGo x ((257 : Nat) - x_2.fst) (↑x_2.fst : Int) x_2.2.fst x_2.2.snd ∧ ((0 : Int) ≤ x_2.2.fst.fst ∧ x_2.2.fst.fst ≤ (20000 : Int)) ∧ ((0 : Int) ≤ x_2.2.fst.snd ∧ x_2.2.fst.snd ≤ (10000 : Int)) ∧ List.length x_2.2.snd = x_2.fst → (decide ((↑x_2.1 : Int) ≤ (256 : Int)) = true → (decide (x.snd.fst < x_2.2.1.fst) = true → [] = (runF x s).fst ∧ (↑x_2.1 : Int) = (runF x s).snd.fst ∧ (30 : Int) = (runF x s).snd.snd) ∧ (decide (x.snd.fst < x_2.2.1.fst) = false → (List.length x_2.2.2 + (1 : Nat)) * (16 : Nat) ≤ (140737488355328 : Nat) ∧ (decide (x_2.2.1.snd = (0 : Int) ∧ x_2.2.1.fst ≤ x.fst) = true → x_2.2.2 ++ [(x_2.2.1.fst, x_2.2.1.snd)] = (runF x s).fst ∧ (0 : Int) = (runF x s).snd.fst ∧ (0 : Int) = (runF x s).snd.snd) ∧ (decide (x_2.2.1.snd = (0 : Int) ∧ x_2.2.1.fst ≤ x.fst) = false → (((-100000 : Int) ≤ x_2.2.1.fst ∧ x_2.2.1.fst ≤ (100000 : Int)) ∧ ((-100000 : Int) ≤ x_2.2.1.snd ∧ x_2.2.1.snd ≤ (100000 : Int)) ∧ ((-100000 : Int) ≤ x.snd.snd.fst ∧ x.snd.snd.fst ≤ (100000 : Int)) ∧ (-100000 : Int) ≤ x.snd.snd.snd ∧ x.snd.snd.snd ≤ (100000 : Int)) ∧ ((-9223372036854775808 : Int) ≤ (↑x_2.1 : Int) + (1 : Int) ∧ (↑x_2.1 : Int) + (1 : Int) ≤ (9223372036854775807 : Int)) ∧ ∃ (y : Nat × (Int × Int) × List (Int × Int)), ((↑x_2.1 : Int) + (1 : Int) = (↑y.1 : Int) ∧ x.fst = x.fst ∧ x.snd.fst = x.snd.fst ∧ x.snd.snd.fst = x.snd.snd.fst ∧ x.snd.snd.snd = x.snd.snd.snd ∧ (nextT (x.fst, x.snd.fst, x.snd.snd.fst, x.snd.snd.snd) (x_2.2.1.fst, x_2.2.1.snd)).fst = y.2.1.fst ∧ (nextT (x.fst, x.snd.fst, x.snd.snd.fst, x.snd.snd.snd) (x_2.2.1.fst, x_2.2.1.snd)).snd = y.2.1.snd ∧ x_2.2.2 ++ [(x_2.2.1.fst, x_2.2.1.snd)] = y.2.2) ∧ (y.fst ≤ (257 : Nat) ∧ runE x s = (0 : Int) ∧ runF x s = runGo x ((257 : Nat) - y.fst) (↑y.fst : Int) y.2.fst y.2.snd ∧ ((0 : Int) ≤ y.2.fst.fst ∧ y.2.fst.fst ≤ (20000 : Int)) ∧ ((0 : Int) ≤ y.2.fst.snd ∧ y.2.fst.snd ≤ (10000 : Int)) ∧ List.length y.2.snd = y.fst) ∧ (257 : Nat) - y.fst < (257 : Nat) - x_2.fst))) ∧ (decide ((↑x_2.1 : Int) ≤ (256 : Int)) = false → [] = (runF x s).fst ∧ (0 : Int) = (runF x s).snd.fst ∧ (20 : Int) = (runF x s).snd.snd))) := by
  intros
  kernel_rfl
theorem wp71 (x : TrT) (s : Int × Int) : wpF Tryz.prog G119 (ann0 (annRRun x s)) Tryz.f71 cRRun (x, s, ()) := by
  refine (vc71 x s).mpr ?_
  have hE : runE (x.1, x.2.1, x.2.2.1, x.2.2.2) (s.1, s.2) = runE x s := rfl
  rw [hE]
  refine ⟨fun h => ?_, fun h => ?_⟩
  · have h' := bne_iff_ne.1 h
    have e : runF x s = ([], 0, runE x s) := by unfold runF; rw [if_pos h']
    rw [e]
    exact ⟨rfl, rfl, rfl⟩
  have h' := bne_eq_false_iff_eq.1 h
  obtain ⟨t0, t1, t2⟩ := runE_facts h'
  obtain ⟨b1, b2, b3, b4⟩ := trip_facts t0
  have e0 : runF x s = runGo x 257 0 s [] := by unfold runF; rw [if_neg (by simpa using h')]
  refine ⟨((0 : Nat), s, []), by simp, ⟨Nat.zero_le _, h', e0, ⟨t1.1, Int.le_trans t1.2 (Int.le_trans b2.2 (by decide))⟩, t2, rfl⟩, ?_⟩
  rintro ⟨k, q, out⟩ ⟨i1, i2, i3, i4, i5, i6⟩
  simp only at i1 i3 i4 i5 i6
  refine ⟨fun c => ⟨fun d => ?_, fun d => ⟨?_, fun e => ?_, fun e => ?_⟩⟩, fun c => ?_⟩
  · have c' := of_decide_eq_true c
    have d' := of_decide_eq_true d
    simp only at c' d' ⊢
    obtain ⟨m, hm⟩ : ∃ m, 257 - k = m + 1 := ⟨256 - k, by omega⟩
    rw [i3, hm]
    unfold runGo
    rw [if_pos d']
    exact ⟨rfl, rfl, rfl⟩
  · simp only [i6]; omega
  · have c' := of_decide_eq_true c
    have d' := of_decide_eq_false d
    have e' := of_decide_eq_true e
    simp only at c' d' e' ⊢
    obtain ⟨m, hm⟩ : ∃ m, 257 - k = m + 1 := ⟨256 - k, by omega⟩
    rw [i3, hm]
    unfold runGo
    rw [if_neg d', if_pos e']
    exact ⟨rfl, rfl, rfl⟩
  · have c' := of_decide_eq_true c
    have d' := of_decide_eq_false d
    have e' := of_decide_eq_false e
    simp only at c' d' e' ⊢
    obtain ⟨m, hm⟩ : ∃ m, 257 - k = m + 1 := ⟨256 - k, by omega⟩
    have hn1 : 0 ≤ (nextT x q).1 ∧ (nextT x q).1 ≤ 20000 := by
      unfold nextT
      simp only
      split <;> omega
    have hn2 : 0 ≤ (nextT x q).2 ∧ (nextT x q).2 ≤ 10000 := by
      unfold nextT
      simp only
      omega
    refine ⟨by omega, by omega, ((k + 1 : Nat), nextT x q, out ++ [q]), by simp, ⟨by simp only; omega, h', ?_, hn1, hn2, by simp [i6]⟩, by simp only; omega⟩
    rw [i3, hm]
    conv => lhs; unfold runGo
    rw [if_neg d', if_neg e', show 257 - (k + 1) = m by omega]
    simp
  · have c' := of_decide_eq_false c
    have hk : k = 257 := by simp only at c'; omega
    subst hk
    rw [i3]
    exact ⟨rfl, rfl, rfl⟩
theorem ok71 : Ok Tryz.prog 71 cRRun := ok_of_wp mixed g119 (by kernel_rfl) (by kernel_rfl) (fun xx => ann0 (annRRun xx.1 xx.2.1)) fun xx => wp71 xx.1 xx.2.1
abbrev G120 : Gam := (71, cRRun) :: G119
theorem g120 : GamOk Tryz.prog G120 := .cons ok71 g119
def cRSupported : Con := { args := [a3, aI], ress := [I], owns := [], pre := fun (x, d, _) => [suppOk x, -10000 ≤ d ∧ d ≤ 10000], spec := fun (x, d, _) => (addsS x d, ()) }
theorem vc85 : ∀ (x : Int × Int × Int) (d : Int), wpF Tryz.prog G120 (na ()) Tryz.f85 cRSupported (x, d, ()) = (suppOk x → (-10000 : Int) ≤ d ∧ d ≤ (10000 : Int) → (((-9223372036854775808 : Int) ≤ (0 : Int) - d ∧ (0 : Int) - d ≤ (9223372036854775807 : Int)) ∧ (-9223372036854775808 : Int) ≤ max d ((0 : Int) - d) - x.fst ∧ max d ((0 : Int) - d) - x.fst ≤ (9223372036854775807 : Int)) ∧ (decide (max d ((0 : Int) - d) - x.fst ≤ (0 : Int)) = true → (0 : Int) = addsS x d) ∧ (decide (max d ((0 : Int) - d) - x.fst ≤ (0 : Int)) = false → (((-9223372036854775808 : Int) ≤ x.snd.fst * (max d ((0 : Int) - d) - x.fst) ∧ x.snd.fst * (max d ((0 : Int) - d) - x.fst) ≤ (9223372036854775807 : Int)) ∧ ((1024 : Int) = (0 : Int) → False) ∧ (-9223372036854775808 : Int) ≤ Int.tdiv (x.snd.fst * (max d ((0 : Int) - d) - x.fst)) (1024 : Int) ∧ Int.tdiv (x.snd.fst * (max d ((0 : Int) - d) - x.fst)) (1024 : Int) ≤ (9223372036854775807 : Int)) ∧ (decide ((0 : Int) < d) = true → ((-9223372036854775808 : Int) ≤ (0 : Int) - min x.snd.snd (Int.tdiv (x.snd.fst * (max d ((0 : Int) - d) - x.fst)) (1024 : Int)) ∧ (0 : Int) - min x.snd.snd (Int.tdiv (x.snd.fst * (max d ((0 : Int) - d) - x.fst)) (1024 : Int)) ≤ (9223372036854775807 : Int)) ∧ (0 : Int) - min x.snd.snd (Int.tdiv (x.snd.fst * (max d ((0 : Int) - d) - x.fst)) (1024 : Int)) = addsS x d) ∧ (decide ((0 : Int) < d) = false → min x.snd.snd (Int.tdiv (x.snd.fst * (max d ((0 : Int) - d) - x.fst)) (1024 : Int)) = addsS x d))) := by
  intros
  kernel_rfl
theorem wp85 (x : Int × Int × Int) (d : Int) : wpF Tryz.prog G120 (na ()) Tryz.f85 cRSupported (x, d, ()) := by
  refine (vc85 x d).mpr ?_
  intro h1 h2
  obtain ⟨b1, b2, b3⟩ := h1
  have m1 := mul_bd (a := x.2.1) (b := max d (0 - d) - x.1) (A := 1000) (B := 20000) ⟨by omega, by omega⟩ ⟨by omega, by omega⟩
  have m2 := tdiv_bd (a := x.2.1 * (max d (0 - d) - x.1)) (g := 1024) (B := 20000000) ⟨by omega, by omega⟩
  refine ⟨by omega, fun h => ?_, fun h => ⟨⟨by omega, by omega, by omega⟩, fun h3 => ⟨by omega, ?_⟩, fun h3 => ?_⟩⟩
  · have h' := of_decide_eq_true h
    have e : addN x d = 0 := by
      unfold addN
      rw [show max 0 (max d (0 - d) - x.1) = 0 by omega, Int.mul_zero, Int.zero_tdiv]
      omega
    unfold addsS
    rw [e]
    cases decide (0 < d) <;> rfl
  · have h' := of_decide_eq_false h
    unfold addsS addN
    rw [h3, show max 0 (max d (0 - d) - x.1) = max d (0 - d) - x.1 by omega]; rfl
  · have h' := of_decide_eq_false h
    unfold addsS addN
    rw [h3, show max 0 (max d (0 - d) - x.1) = max d (0 - d) - x.1 by omega]; rfl
theorem ok85 : Ok Tryz.prog 85 cRSupported := ok_of_wp mixed g120 (by kernel_rfl) (by kernel_rfl) na fun xx => wp85 xx.1 xx.2.1
abbrev G121 : Gam := (85, cRSupported) :: G120
theorem g121 : GamOk Tryz.prog G121 := .cons ok85 g120
theorem firstS_map_drop {α : Type} {f : α → Int} {l : List α} {k : Nat} {d : α} (h : k < l.length) : firstS ((l.drop k).map f) = if f (l.getD k d) = 0 then firstS ((l.drop (k + 1)).map f) else f (l.getD k d) := by
  have e : l.getD k d = l[k] := by simp [List.getD_eq_getElem?_getD, h]
  rw [List.drop_eq_getElem_cons h, List.map_cons, e]
  simp only [firstS]
theorem devsM_drop {l : List Int} {k : Nat} (h : k < l.length) : devsM (l.drop k) = if withinS (l.getD k 0) (-10000) 10000 = 0 then devsM (l.drop (k + 1)) else withinS (l.getD k 0) (-10000) 10000 := by
  exact firstS_map_drop h
def devS (x : Int × Int × Int) (l : List Int) : Int := if supportS x ≠ 0 then supportS x else if 256 < l.length then 5 else devsM l
def cCheckDevs : Con := { args := [a3, .val false (.list 3 sI)], ress := [I], owns := [], pre := fun _ => [], spec := fun (x, l, _) => (devS x l, ()) }
abbrev annDevs (x : Int × Int × Int) (l : List Int) : Ann := { X := Nat, σ := fun k => ⟨1, [(1, .one (.sl 0)), (6, .one (.int .i64 k))], [(0, .imm 3 sI l)]⟩, inv := fun k => k ≤ l.length ∧ l.length ≤ 256 ∧ supportS x = 0 ∧ devsM l = devsM (l.drop k), mu := fun k => l.length - k }
theorem vc84 : ∀ (x : Int × Int × Int) (l : List Int), wpF Tryz.prog G121 (ann0 (annDevs x l)) Tryz.f84 cCheckDevs (x, l, ()) = (((supportS (x.fst, x.snd.fst, x.snd.snd) != (0 : Int)) = true → supportS (x.fst, x.snd.fst, x.snd.snd) = devS x l) ∧ ((supportS (x.fst, x.snd.fst, x.snd.snd) != (0 : Int)) = false → (decide ((256 : Int) < (↑(List.length l) : Int)) = true → (5 : Int) = devS x l) ∧ (decide ((256 : Int) < (↑(List.length l) : Int)) = false → ∃ (x_1 : Nat), ((0 : Int) = (↑x_1 : Int) ∧ l = l) ∧ (x_1 ≤ List.length l ∧ List.length l ≤ (256 : Nat) ∧ supportS x = (0 : Int) ∧ devsM l = devsM (List.drop x_1 l)) ∧ ∀ (x_2 : Nat), x_2 ≤ List.length l ∧ List.length l ≤ (256 : Nat) ∧ supportS x = (0 : Int) ∧ devsM l = devsM (List.drop x_2 l) → (decide ((↑x_2 : Int) < (↑(List.length l) : Int)) = true → (((0 : Int) ≤ (↑x_2 : Int) ∧ (↑x_2 : Int) < (↑(List.length l) : Int)) ∧ (0 : Int) ≤ (↑x_2 : Int) ∧ (↑x_2 : Int) < (↑(List.length l) : Int)) ∧ ((withinS (List.getD l x_2 (0 : Int)) (-10000 : Int) (10000 : Int) != (0 : Int)) = true → withinS (List.getD l x_2 (0 : Int)) (-10000 : Int) (10000 : Int) = devS x l) ∧ ((withinS (List.getD l x_2 (0 : Int)) (-10000 : Int) (10000 : Int) != (0 : Int)) = false → ((-9223372036854775808 : Int) ≤ (↑x_2 : Int) + (1 : Int) ∧ (↑x_2 : Int) + (1 : Int) ≤ (9223372036854775807 : Int)) ∧ ∃ (y : Nat), ((↑x_2 : Int) + (1 : Int) = (↑y : Int) ∧ l = l) ∧ (y ≤ List.length l ∧ List.length l ≤ (256 : Nat) ∧ supportS x = (0 : Int) ∧ devsM l = devsM (List.drop y l)) ∧ List.length l - y < List.length l - x_2)) ∧ (decide ((↑x_2 : Int) < (↑(List.length l) : Int)) = false → (0 : Int) = devS x l)))) := by
  intros
  kernel_rfl
theorem wp84 (x : Int × Int × Int) (l : List Int) : wpF Tryz.prog G121 (ann0 (annDevs x l)) Tryz.f84 cCheckDevs (x, l, ()) := by
  refine (vc84 x l).mpr ?_
  change ((supportS x != 0) = true → supportS x = _) ∧ ((supportS x != 0) = false → _)
  refine ⟨fun h => ?_, fun h => ⟨fun h1 => ?_, fun h1 => ⟨(0 : Nat), ⟨rfl, rfl⟩, ⟨by omega, by have := of_decide_eq_false h1; omega, bne_eq_false_iff_eq.1 h, rfl⟩, fun k hk => ⟨fun h2 => ⟨by have := of_decide_eq_true h2; omega, fun h3 => ?_, fun h3 => ⟨by omega, k + 1, ⟨by omega, rfl⟩, ⟨by have := of_decide_eq_true h2; omega, hk.2.1, hk.2.2.1, ?_⟩, by have := of_decide_eq_true h2; omega⟩⟩, fun h2 => ?_⟩⟩⟩⟩
  · have h0 := bne_iff_ne.1 h
    simp [devS, h0]
  · have h0 := bne_eq_false_iff_eq.1 h
    have h1' := of_decide_eq_true h1
    simp [devS, h0, show 256 < l.length by omega]
  · have h2' := of_decide_eq_true h2
    have h3' := bne_iff_ne.1 h3
    simp only [devS, hk.2.2.1, ne_eq, not_true, if_false]
    rw [if_neg (by omega), hk.2.2.2, devsM_drop (by omega), if_neg h3']
  · have h2' := of_decide_eq_true h2
    have h3' := bne_eq_false_iff_eq.1 h3
    rw [hk.2.2.2, devsM_drop (by omega), if_pos h3']
  · have h2' := of_decide_eq_false h2
    simp only [devS, hk.2.2.1, ne_eq, not_true, if_false]
    rw [if_neg (by omega), hk.2.2.2, List.drop_eq_nil_of_le (by omega)]; rfl
theorem ok84 : Ok Tryz.prog 84 cCheckDevs := ok_of_wp mixed g121 (by kernel_rfl) (by kernel_rfl) (fun xx => ann0 (annDevs xx.1 xx.2.1)) fun xx => wp84 xx.1 xx.2.1
abbrev G122 : Gam := (84, cCheckDevs) :: G121
theorem g122 : GamOk Tryz.prog G122 := .cons ok84 g121
end Go.Proofs.YtacaadhlobbemaaGreatDoor
namespace Go.Proofs.YtacaadhlobbemaaGreatDoor
open Go.Sx
set_option maxHeartbeats 20000000
def askP (a b : List (Int × Int)) (k : Int) : Int × Int := (k, askedS a k + askedS b k)
def mergeE (a b : List (Int × Int)) : Int := firstS [ordersS a, ordersS b]
theorem asked_bd {t : Int} : ∀ {l : List (Int × Int)} {p : Int}, (∀ x ∈ l, -1000 ≤ x.2 ∧ x.2 ≤ 1000) → (-1000 ≤ p ∧ p ≤ 1000) → -1000 ≤ askedGo t l p ∧ askedGo t l p ≤ 1000
  | [], p, _, h => h
  | x :: r, p, hl, h => by
    have hx := hl x (by simp)
    simp only [askedGo]
    refine asked_bd (fun y hy => hl y (by simp [hy])) ?_
    split <;> assumption
def mergeT : Nat → List (Int × Int) → List (Int × Int) → List Int
  | 0, _, _ => []
  | _ + 1, [], [] => []
  | f + 1, x :: a, [] => x.1 :: mergeT f a []
  | f + 1, [], y :: b => y.1 :: mergeT f [] b
  | f + 1, x :: a, y :: b => if x.1 < y.1 then x.1 :: mergeT f a (y :: b) else if y.1 < x.1 then y.1 :: mergeT f (x :: a) b else x.1 :: mergeT f a b
def rTicks (a b : List (Int × Int)) : List Int := mergeT (a.length + b.length) a b
def rMergeE (a b : List (Int × Int)) : Int := firstS ((rTicks a b).map fun t => withinS (askP a b t).2 (-1000) 1000)
def rMergedS (a b : List (Int × Int)) : List (Int × Int) × Int := if mergeE a b ≠ 0 then ([], mergeE a b) else if 32 < (rTicks a b).length then ([], 5) else if rMergeE a b ≠ 0 then ([], 4) else ((rTicks a b).map (askP a b), 0)
theorem mergeT_len : ∀ {f : Nat} {a b : List (Int × Int)}, (mergeT f a b).length ≤ f
  | 0, _, _ => by simp [mergeT]
  | f + 1, [], [] => by simp [mergeT]
  | f + 1, x :: a, [] => by simp [mergeT]; exact mergeT_len
  | f + 1, [], y :: b => by simp [mergeT]; exact mergeT_len
  | f + 1, x :: a, y :: b => by
    simp only [mergeT]
    split
    · simp; exact mergeT_len
    · split
      · simp; exact mergeT_len
      · simp; exact mergeT_len
theorem mergeT_a {f : Nat} {a b : List (Int × Int)} {i k : Nat} (hi : i < a.length) (h : b.length ≤ k ∨ (a.getD i (0, 0)).1 < (b.getD k (0, 0)).1) :
    mergeT (f + 1) (a.drop i) (b.drop k) = (a.getD i (0, 0)).1 :: mergeT f (a.drop (i + 1)) (b.drop k) := by
  have e : a.getD i (0, 0) = a[i] := by simp [List.getD_eq_getElem?_getD, hi]
  rw [List.drop_eq_getElem_cons hi, e]
  rcases Nat.lt_or_ge k b.length with hk | hk
  · have e2 : b.getD k (0, 0) = b[k] := by simp [List.getD_eq_getElem?_getD, hk]
    rw [List.drop_eq_getElem_cons hk]
    rw [e, e2] at h
    simp only [mergeT]
    rw [if_pos (h.resolve_left (by omega))]
  · rw [List.drop_eq_nil_of_le hk]; rfl
theorem mergeT_b {f : Nat} {a b : List (Int × Int)} {i k : Nat} (hk : k < b.length) (h : a.length ≤ i ∨ (b.getD k (0, 0)).1 < (a.getD i (0, 0)).1) :
    mergeT (f + 1) (a.drop i) (b.drop k) = (b.getD k (0, 0)).1 :: mergeT f (a.drop i) (b.drop (k + 1)) := by
  have e2 : b.getD k (0, 0) = b[k] := by simp [List.getD_eq_getElem?_getD, hk]
  rw [List.drop_eq_getElem_cons hk, e2]
  rcases Nat.lt_or_ge i a.length with hi | hi
  · have e : a.getD i (0, 0) = a[i] := by simp [List.getD_eq_getElem?_getD, hi]
    rw [List.drop_eq_getElem_cons hi]
    rw [e, e2] at h
    have h := h.resolve_left (by omega)
    simp only [mergeT]
    rw [if_neg (by omega), if_pos h]
  · rw [List.drop_eq_nil_of_le hi]; rfl
theorem mergeT_ab {f : Nat} {a b : List (Int × Int)} {i k : Nat} (hi : i < a.length) (hk : k < b.length) (h : (a.getD i (0, 0)).1 = (b.getD k (0, 0)).1) :
    mergeT (f + 1) (a.drop i) (b.drop k) = (a.getD i (0, 0)).1 :: mergeT f (a.drop (i + 1)) (b.drop (k + 1)) := by
  have e : a.getD i (0, 0) = a[i] := by simp [List.getD_eq_getElem?_getD, hi]
  have e2 : b.getD k (0, 0) = b[k] := by simp [List.getD_eq_getElem?_getD, hk]
  rw [List.drop_eq_getElem_cons hi, List.drop_eq_getElem_cons hk, e]
  rw [e, e2] at h
  simp only [mergeT]
  rw [if_neg (by omega), if_neg (by omega)]
def cRMerged : Con := { args := [aL 142, aL 142], ress := [(false, .list 142 sPt), I], owns := [], pre := fun _ => [], spec := fun (a, b, _) => ((rMergedS a b).1, (rMergedS a b).2, ()) }
abbrev annRMerged (a b : List (Int × Int)) : Nat → Option Ann := fun id =>
  if id = 0 then some { X := Nat × Nat × Nat × List Int, σ := fun (i, k, f, ts) => ⟨3, [(0, .one (.sl 0)), (1, .one (.sl 1)), (7, .one (.sl 2)), (8, .one (.int .i64 i)), (9, .one (.int .i64 k))], [(0, .imm 142 sPt a), (1, .imm 142 sPt b), (2, .own 3 sI ts)]⟩, inv := fun (i, k, f, ts) => i ≤ a.length ∧ k ≤ b.length ∧ (a.length - i) + (b.length - k) ≤ f ∧ ts.length + f = a.length + b.length ∧ mergeE a b = 0 ∧ rTicks a b = ts ++ mergeT f (a.drop i) (b.drop k), mu := fun (_, _, f, _) => f }
  else if id = 3 then some { X := Nat, σ := fun n => ⟨4, [(0, .one (.sl 0)), (1, .one (.sl 1)), (7, .one (.sl 2)), (10, .one (.sl 3)), (11, .one (.int .i64 n))], [(0, .imm 142 sPt a), (1, .imm 142 sPt b), (2, .own 3 sI (rTicks a b)), (3, .own 142 sPt (((rTicks a b).take n).map (askP a b)))]⟩, inv := fun n => n ≤ (rTicks a b).length ∧ mergeE a b = 0 ∧ (rTicks a b).length ≤ 32 ∧ rMergeE a b = firstS (((rTicks a b).drop n).map fun t => withinS (askP a b t).2 (-1000) 1000), mu := fun n => (rTicks a b).length - n }
  else none
theorem vc55 : ∀ (a b : List (Int × Int)), wpF Tryz.prog G122 (annRMerged a b) Tryz.f55 cRMerged (a, b, ()) = ((2 : Nat) ≤ (1000000 : Nat) ∧ ((firstS [ordersS a, ordersS b] != (0 : Int)) = true → [] = (rMergedS a b).fst ∧ firstS [ordersS a, ordersS b] = (rMergedS a b).snd) ∧ ((firstS [ordersS a, ordersS b] != (0 : Int)) = false → ∃ (x : Nat × Nat × Nat × List Int), ((0 : Int) = (↑x.1 : Int) ∧ (0 : Int) = (↑x.2.1 : Int) ∧ a = a ∧ b = b ∧ List.length x.2.2.2 = (0 : Nat)) ∧ (x.fst ≤ List.length a ∧ x.2.fst ≤ List.length b ∧ List.length a - x.fst + (List.length b - x.2.fst) ≤ x.2.2.fst ∧ List.length x.2.2.snd + x.2.2.fst = List.length a + List.length b ∧ mergeE a b = (0 : Int) ∧ rTicks a b = x.2.2.snd ++ mergeT x.2.2.fst (List.drop x.fst a) (List.drop x.2.fst b)) ∧ ∀ (x : Nat × Nat × Nat × List Int), x.fst ≤ List.length a ∧ x.2.fst ≤ List.length b ∧ List.length a - x.fst + (List.length b - x.2.fst) ≤ x.2.2.fst ∧ List.length x.2.2.snd + x.2.2.fst = List.length a + List.length b ∧ mergeE a b = (0 : Int) ∧ rTicks a b = x.2.2.snd ++ mergeT x.2.2.fst (List.drop x.fst a) (List.drop x.2.fst b) → ((bif decide ((↑x.1 : Int) < (↑(List.length a) : Int)) then true else decide ((↑x.2.1 : Int) < (↑(List.length b) : Int))) = true → ((((↑x.2.1 : Int) == (↑(List.length b) : Int)) = false ∧ decide ((↑x.1 : Int) < (↑(List.length a) : Int)) = true → (0 : Int) ≤ (↑x.1 : Int) ∧ (↑x.1 : Int) < (↑(List.length a) : Int)) ∧ (((↑x.2.1 : Int) == (↑(List.length b) : Int)) = false ∧ decide ((↑x.1 : Int) < (↑(List.length a) : Int)) = true → (0 : Int) ≤ (↑x.1 : Int) ∧ (↑x.1 : Int) < (↑(List.length a) : Int)) ∧ (((↑x.2.1 : Int) == (↑(List.length b) : Int)) = false ∧ decide ((↑x.1 : Int) < (↑(List.length a) : Int)) = true → (0 : Int) ≤ (↑x.2.1 : Int) ∧ (↑x.2.1 : Int) < (↑(List.length b) : Int)) ∧ (((↑x.2.1 : Int) == (↑(List.length b) : Int)) = false ∧ decide ((↑x.1 : Int) < (↑(List.length a) : Int)) = true → (0 : Int) ≤ (↑x.2.1 : Int) ∧ (↑x.2.1 : Int) < (↑(List.length b) : Int))) ∧ ((bif (↑x.2.1 : Int) == (↑(List.length b) : Int) then true else bif decide ((↑x.1 : Int) < (↑(List.length a) : Int)) then decide ((List.getD a x.1 ((0 : Int), (0 : Int))).fst < (List.getD b x.2.1 ((0 : Int), (0 : Int))).fst) else false) = true → (((0 : Int) ≤ (↑x.1 : Int) ∧ (↑x.1 : Int) < (↑(List.length a) : Int)) ∧ ((0 : Int) ≤ (↑x.1 : Int) ∧ (↑x.1 : Int) < (↑(List.length a) : Int)) ∧ (List.length x.2.2.2 + (1 : Nat)) * (8 : Nat) ≤ (140737488355328 : Nat)) ∧ ((-9223372036854775808 : Int) ≤ (↑x.1 : Int) + (1 : Int) ∧ (↑x.1 : Int) + (1 : Int) ≤ (9223372036854775807 : Int)) ∧ ∃ (y : Nat × Nat × Nat × List Int), ((↑x.1 : Int) + (1 : Int) = (↑y.1 : Int) ∧ (↑x.2.1 : Int) = (↑y.2.1 : Int) ∧ a = a ∧ b = b ∧ x.2.2.2 ++ [(List.getD a x.1 ((0 : Int), (0 : Int))).fst] = y.2.2.2) ∧ (y.fst ≤ List.length a ∧ y.2.fst ≤ List.length b ∧ List.length a - y.fst + (List.length b - y.2.fst) ≤ y.2.2.fst ∧ List.length y.2.2.snd + y.2.2.fst = List.length a + List.length b ∧ mergeE a b = (0 : Int) ∧ rTicks a b = y.2.2.snd ++ mergeT y.2.2.fst (List.drop y.fst a) (List.drop y.2.fst b)) ∧ y.2.2.1 < x.2.2.1) ∧ ((bif (↑x.2.1 : Int) == (↑(List.length b) : Int) then true else bif decide ((↑x.1 : Int) < (↑(List.length a) : Int)) then decide ((List.getD a x.1 ((0 : Int), (0 : Int))).fst < (List.getD b x.2.1 ((0 : Int), (0 : Int))).fst) else false) = false → ((((↑x.1 : Int) == (↑(List.length a) : Int)) = false → (0 : Int) ≤ (↑x.2.1 : Int) ∧ (↑x.2.1 : Int) < (↑(List.length b) : Int)) ∧ (((↑x.1 : Int) == (↑(List.length a) : Int)) = false → (0 : Int) ≤ (↑x.2.1 : Int) ∧ (↑x.2.1 : Int) < (↑(List.length b) : Int)) ∧ (((↑x.1 : Int) == (↑(List.length a) : Int)) = false → (0 : Int) ≤ (↑x.1 : Int) ∧ (↑x.1 : Int) < (↑(List.length a) : Int)) ∧ (((↑x.1 : Int) == (↑(List.length a) : Int)) = false → (0 : Int) ≤ (↑x.1 : Int) ∧ (↑x.1 : Int) < (↑(List.length a) : Int))) ∧ ((bif (↑x.1 : Int) == (↑(List.length a) : Int) then true else decide ((List.getD b x.2.1 ((0 : Int), (0 : Int))).fst < (List.getD a x.1 ((0 : Int), (0 : Int))).fst)) = true → (((0 : Int) ≤ (↑x.2.1 : Int) ∧ (↑x.2.1 : Int) < (↑(List.length b) : Int)) ∧ ((0 : Int) ≤ (↑x.2.1 : Int) ∧ (↑x.2.1 : Int) < (↑(List.length b) : Int)) ∧ (List.length x.2.2.2 + (1 : Nat)) * (8 : Nat) ≤ (140737488355328 : Nat)) ∧ ((-9223372036854775808 : Int) ≤ (↑x.2.1 : Int) + (1 : Int) ∧ (↑x.2.1 : Int) + (1 : Int) ≤ (9223372036854775807 : Int)) ∧ ∃ (y : Nat × Nat × Nat × List Int), ((↑x.1 : Int) = (↑y.1 : Int) ∧ (↑x.2.1 : Int) + (1 : Int) = (↑y.2.1 : Int) ∧ a = a ∧ b = b ∧ x.2.2.2 ++ [(List.getD b x.2.1 ((0 : Int), (0 : Int))).fst] = y.2.2.2) ∧ (y.fst ≤ List.length a ∧ y.2.fst ≤ List.length b ∧ List.length a - y.fst + (List.length b - y.2.fst) ≤ y.2.2.fst ∧ List.length y.2.2.snd + y.2.2.fst = List.length a + List.length b ∧ mergeE a b = (0 : Int) ∧ rTicks a b = y.2.2.snd ++ mergeT y.2.2.fst (List.drop y.fst a) (List.drop y.2.fst b)) ∧ y.2.2.1 < x.2.2.1) ∧ ((bif (↑x.1 : Int) == (↑(List.length a) : Int) then true else decide ((List.getD b x.2.1 ((0 : Int), (0 : Int))).fst < (List.getD a x.1 ((0 : Int), (0 : Int))).fst)) = false → (((0 : Int) ≤ (↑x.1 : Int) ∧ (↑x.1 : Int) < (↑(List.length a) : Int)) ∧ ((0 : Int) ≤ (↑x.1 : Int) ∧ (↑x.1 : Int) < (↑(List.length a) : Int)) ∧ (List.length x.2.2.2 + (1 : Nat)) * (8 : Nat) ≤ (140737488355328 : Nat)) ∧ ((-9223372036854775808 : Int) ≤ (↑x.1 : Int) + (1 : Int) ∧ (↑x.1 : Int) + (1 : Int) ≤ (9223372036854775807 : Int)) ∧ ((-9223372036854775808 : Int) ≤ (↑x.2.1 : Int) + (1 : Int) ∧ (↑x.2.1 : Int) + (1 : Int) ≤ (9223372036854775807 : Int)) ∧ ∃ (y : Nat × Nat × Nat × List Int), ((↑x.1 : Int) + (1 : Int) = (↑y.1 : Int) ∧ (↑x.2.1 : Int) + (1 : Int) = (↑y.2.1 : Int) ∧ a = a ∧ b = b ∧ x.2.2.2 ++ [(List.getD a x.1 ((0 : Int), (0 : Int))).fst] = y.2.2.2) ∧ (y.fst ≤ List.length a ∧ y.2.fst ≤ List.length b ∧ List.length a - y.fst + (List.length b - y.2.fst) ≤ y.2.2.fst ∧ List.length y.2.2.snd + y.2.2.fst = List.length a + List.length b ∧ mergeE a b = (0 : Int) ∧ rTicks a b = y.2.2.snd ++ mergeT y.2.2.fst (List.drop y.fst a) (List.drop y.2.fst b)) ∧ y.2.2.1 < x.2.2.1))) ∧ ((bif decide ((↑x.1 : Int) < (↑(List.length a) : Int)) then true else decide ((↑x.2.1 : Int) < (↑(List.length b) : Int))) = false → (decide ((32 : Int) < (↑(List.length x.2.2.2) : Int)) = true → [] = (rMergedS a b).fst ∧ (5 : Int) = (rMergedS a b).snd) ∧ (decide ((32 : Int) < (↑(List.length x.2.2.2) : Int)) = false → ∃ (x_1 : Nat), ((0 : Int) = (↑x_1 : Int) ∧ a = a ∧ b = b ∧ x.2.2.2 = rTicks a b ∧ List.length (List.map (askP a b) (List.take x_1 (rTicks a b))) = (0 : Nat)) ∧ (x_1 ≤ List.length (rTicks a b) ∧ mergeE a b = (0 : Int) ∧ List.length (rTicks a b) ≤ (32 : Nat) ∧ rMergeE a b = firstS (List.map (fun (t : Int) => withinS (askP a b t).snd (-1000 : Int) (1000 : Int)) (List.drop x_1 (rTicks a b)))) ∧ ∀ (x : Nat), x ≤ List.length (rTicks a b) ∧ mergeE a b = (0 : Int) ∧ List.length (rTicks a b) ≤ (32 : Nat) ∧ rMergeE a b = firstS (List.map (fun (t : Int) => withinS (askP a b t).snd (-1000 : Int) (1000 : Int)) (List.drop x (rTicks a b))) → (decide ((↑x : Int) < (↑(List.length (rTicks a b)) : Int)) = true → (((0 : Int) ≤ (↑x : Int) ∧ (↑x : Int) < (↑(List.length (rTicks a b)) : Int)) ∧ ((0 : Int) ≤ (↑x : Int) ∧ (↑x : Int) < (↑(List.length (rTicks a b)) : Int)) ∧ List.length a ≤ (1000000 : Nat) ∧ ((0 : Int) ≤ (↑x : Int) ∧ (↑x : Int) < (↑(List.length (rTicks a b)) : Int)) ∧ ((0 : Int) ≤ (↑x : Int) ∧ (↑x : Int) < (↑(List.length (rTicks a b)) : Int)) ∧ List.length b ≤ (1000000 : Nat) ∧ (-9223372036854775808 : Int) ≤ askedS a (List.getD (rTicks a b) x (0 : Int)) + askedS b (List.getD (rTicks a b) x (0 : Int)) ∧ askedS a (List.getD (rTicks a b) x (0 : Int)) + askedS b (List.getD (rTicks a b) x (0 : Int)) ≤ (9223372036854775807 : Int)) ∧ ((withinS (askedS a (List.getD (rTicks a b) x (0 : Int)) + askedS b (List.getD (rTicks a b) x (0 : Int))) (-1000 : Int) (1000 : Int) != (0 : Int)) = true → [] = (rMergedS a b).fst ∧ (4 : Int) = (rMergedS a b).snd) ∧ ((withinS (askedS a (List.getD (rTicks a b) x (0 : Int)) + askedS b (List.getD (rTicks a b) x (0 : Int))) (-1000 : Int) (1000 : Int) != (0 : Int)) = false → (((0 : Int) ≤ (↑x : Int) ∧ (↑x : Int) < (↑(List.length (rTicks a b)) : Int)) ∧ ((0 : Int) ≤ (↑x : Int) ∧ (↑x : Int) < (↑(List.length (rTicks a b)) : Int)) ∧ (List.length (List.map (askP a b) (List.take x (rTicks a b))) + (1 : Nat)) * (16 : Nat) ≤ (140737488355328 : Nat)) ∧ ((-9223372036854775808 : Int) ≤ (↑x : Int) + (1 : Int) ∧ (↑x : Int) + (1 : Int) ≤ (9223372036854775807 : Int)) ∧ ∃ (y : Nat), ((↑x : Int) + (1 : Int) = (↑y : Int) ∧ a = a ∧ b = b ∧ rTicks a b = rTicks a b ∧ List.map (askP a b) (List.take x (rTicks a b)) ++ [(List.getD (rTicks a b) x (0 : Int), askedS a (List.getD (rTicks a b) x (0 : Int)) + askedS b (List.getD (rTicks a b) x (0 : Int)))] = List.map (askP a b) (List.take y (rTicks a b))) ∧ (y ≤ List.length (rTicks a b) ∧ mergeE a b = (0 : Int) ∧ List.length (rTicks a b) ≤ (32 : Nat) ∧ rMergeE a b = firstS (List.map (fun (t : Int) => withinS (askP a b t).snd (-1000 : Int) (1000 : Int)) (List.drop y (rTicks a b)))) ∧ List.length (rTicks a b) - y < List.length (rTicks a b) - x)) ∧ (decide ((↑x : Int) < (↑(List.length (rTicks a b)) : Int)) = false → List.map (askP a b) (List.take x (rTicks a b)) = (rMergedS a b).fst ∧ (0 : Int) = (rMergedS a b).snd))))) := by
  intros
  kernel_rfl
theorem wp55 (a b : List (Int × Int)) : wpF Tryz.prog G122 (annRMerged a b) Tryz.f55 cRMerged (a, b, ()) := by
  refine (vc55 a b).mpr ?_
  have hE : firstS [ordersS a, ordersS b] = mergeE a b := rfl
  rw [hE]
  refine ⟨by omega, fun h => ?_, fun h => ?_⟩
  · have h0 := bne_iff_ne.1 h
    simp [rMergedS, h0]
  have h0 := bne_eq_false_iff_eq.1 h
  have h0' := h0
  unfold mergeE at h0'
  rw [firstS_zero, firstS_zero] at h0'
  have la := orders_len h0'.1
  have lb := orders_len h0'.2.1
  have oa := orders_all h0'.1
  have ob := orders_all h0'.2.1
  refine ⟨((0 : Nat), (0 : Nat), a.length + b.length, []), by simp, ⟨Nat.zero_le _, Nat.zero_le _, by simp only; omega, by simp, h0, rfl⟩, ?_⟩
  rintro ⟨i, k, f, ts⟩ ⟨i1, i2, i3, i4, i5, i6⟩
  simp only at i1 i2 i3 i4 i5 i6
  dsimp only
  have ca : (bif decide ((i : Int) < a.length) then true else decide ((k : Int) < b.length)) = true ↔ i < a.length ∨ k < b.length := by
    by_cases hi : i < a.length <;> by_cases hk : k < b.length <;> simp [hi, hk]
  refine ⟨fun c => ?_, fun c => ?_⟩
  · have c2 := ca.1 c
    clear c
    obtain ⟨f', rfl⟩ : ∃ f', f = f' + 1 := ⟨f - 1, by omega⟩
    refine ⟨⟨fun g => ?_, fun g => ?_, fun g => ?_, fun g => ?_⟩, fun d => ?_, fun d => ⟨⟨fun g => ?_, fun g => ?_, fun g => ?_, fun g => ?_⟩, fun e => ?_, fun e => ?_⟩⟩
    · have := of_decide_eq_true g.2; omega
    · have := of_decide_eq_true g.2; omega
    · have := beq_eq_false_iff_ne.1 g.1; omega
    · have := beq_eq_false_iff_ne.1 g.1; omega
    · have hd : i < a.length ∧ (b.length ≤ k ∨ (a.getD i (0, 0)).1 < (b.getD k (0, 0)).1) := by
        by_cases hk : k = b.length
        · omega
        · by_cases hi : i < a.length
          · have hk' : ((k : Int) == b.length) = false := by simp; omega
            rw [hk', decide_eq_true (show (i : Int) < a.length by omega)] at d
            exact ⟨hi, .inr (of_decide_eq_true d)⟩
          · have hk' : ((k : Int) == b.length) = false := by simp; omega
            rw [hk', decide_eq_false (show ¬ (i : Int) < a.length by omega)] at d
            cases d
      refine ⟨⟨by omega, by omega, by omega⟩, by omega, ((i + 1 : Nat), k, f', ts ++ [(a.getD i (0, 0)).1]), by simp, ⟨by simp only; omega, i2, by simp only; omega, by simp; omega, h0, ?_⟩, by simp⟩
      rw [i6, mergeT_a hd.1 hd.2]
      simp
    · have hkn : k ≠ b.length := fun hk => by
        rw [show ((k : Int) == b.length) = true by simp [hk]] at d
        simp at d
      omega
    · have hkn : k ≠ b.length := fun hk => by
        rw [show ((k : Int) == b.length) = true by simp [hk]] at d
        simp at d
      omega
    · have := beq_eq_false_iff_ne.1 g; omega
    · have := beq_eq_false_iff_ne.1 g; omega
    · have hd' : ¬ (i < a.length ∧ (b.length ≤ k ∨ (a.getD i (0, 0)).1 < (b.getD k (0, 0)).1)) := by
        rintro ⟨hi, hd⟩
        rw [decide_eq_true (show (i : Int) < a.length by omega)] at d
        by_cases hk : k = b.length
        · rw [show ((k : Int) == b.length) = true by simp [hk]] at d
          simp at d
        · rw [show ((k : Int) == b.length) = false by simp; omega] at d
          exact absurd (hd.resolve_left (by omega)) (of_decide_eq_false d)
      have hkl : k < b.length := by
        rcases c2 with c2 | c2
        · rcases Nat.lt_or_ge k b.length with h | h
          · exact h
          · exact absurd ⟨c2, .inl h⟩ hd'
        · exact c2
      have hd : a.length ≤ i ∨ (b.getD k (0, 0)).1 < (a.getD i (0, 0)).1 := by
        by_cases hi : i = a.length
        · exact .inl (by omega)
        · rw [show ((i : Int) == a.length) = false by simp; omega] at e
          exact .inr (of_decide_eq_true e)
      refine ⟨⟨by omega, by omega, by omega⟩, by omega, (i, (k + 1 : Nat), f', ts ++ [(b.getD k (0, 0)).1]), by simp, ⟨i1, by simp only; omega, by simp only; omega, by simp; omega, h0, ?_⟩, by simp⟩
      rw [i6, mergeT_b hkl hd]
      simp
    · have hd' : ¬ (i < a.length ∧ (b.length ≤ k ∨ (a.getD i (0, 0)).1 < (b.getD k (0, 0)).1)) := by
        rintro ⟨hi, hd⟩
        rw [decide_eq_true (show (i : Int) < a.length by omega)] at d
        by_cases hk : k = b.length
        · rw [show ((k : Int) == b.length) = true by simp [hk]] at d
          simp at d
        · rw [show ((k : Int) == b.length) = false by simp; omega] at d
          exact absurd (hd.resolve_left (by omega)) (of_decide_eq_false d)
      have hkl : k < b.length := by
        rcases c2 with c2 | c2
        · rcases Nat.lt_or_ge k b.length with h | h
          · exact h
          · exact absurd ⟨c2, .inl h⟩ hd'
        · exact c2
      have hd : i < a.length ∧ ¬ (b.getD k (0, 0)).1 < (a.getD i (0, 0)).1 := by
        by_cases hi : i = a.length
        · rw [show ((i : Int) == a.length) = true by simp [hi]] at e
          cases e
        · rw [show ((i : Int) == a.length) = false by simp; omega] at e
          exact ⟨by omega, of_decide_eq_false e⟩
      have heq : (a.getD i (0, 0)).1 = (b.getD k (0, 0)).1 := by
        have : ¬ (a.getD i (0, 0)).1 < (b.getD k (0, 0)).1 := fun h => hd' ⟨hd.1, .inr h⟩
        have := hd.2
        omega
      refine ⟨⟨by omega, by omega, by omega⟩, by omega, by omega, ((i + 1 : Nat), (k + 1 : Nat), f', ts ++ [(a.getD i (0, 0)).1]), by simp, ⟨by simp only; omega, by simp only; omega, by simp only; omega, by simp; omega, h0, ?_⟩, by simp⟩
      rw [i6, mergeT_ab hd.1 hkl heq]
      simp
  · have c : ¬ (i < a.length ∨ k < b.length) := fun h => by rw [ca.2 h] at c; cases c
    have e6 : rTicks a b = ts := by
      rw [i6, List.drop_eq_nil_of_le (by omega), List.drop_eq_nil_of_le (by omega)]
      cases f <;> simp [mergeT]
    refine ⟨fun d => ?_, fun d => ⟨(0 : Nat), ⟨rfl, rfl, rfl, e6.symm, by simp⟩, ⟨Nat.zero_le _, h0, by rw [e6]; have := of_decide_eq_false d; omega, rfl⟩, fun n hn => ?_⟩⟩
    · have d' := of_decide_eq_true d
      have : 32 < (rTicks a b).length := by rw [e6]; omega
      simp only [rMergedS, h0, ne_eq, not_true, if_false, this, if_true, and_self]
    · have hS : rMergedS a b = if rMergeE a b ≠ 0 then ([], 4) else ((rTicks a b).map (askP a b), 0) := by
        unfold rMergedS
        rw [if_neg (by simpa using h0), if_neg (by omega)]
      have b1 := asked_bd (t := (rTicks a b).getD n 0) (l := a) (p := 0) (fun x hx => (oa x hx).2) ⟨by decide, by decide⟩
      have b2 := asked_bd (t := (rTicks a b).getD n 0) (l := b) (p := 0) (fun x hx => (ob x hx).2) ⟨by decide, by decide⟩
      change -1000 ≤ askedS a ((rTicks a b).getD n 0) ∧ askedS a ((rTicks a b).getD n 0) ≤ 1000 at b1
      change -1000 ≤ askedS b ((rTicks a b).getD n 0) ∧ askedS b ((rTicks a b).getD n 0) ≤ 1000 at b2
      refine ⟨fun g => ?_, fun g => ?_⟩
      · have g' : n < (rTicks a b).length := by have := of_decide_eq_true g; omega
        have hd := firstS_map_drop (f := fun t => withinS (askP a b t).2 (-1000) 1000) (d := 0) g'
        rw [hS, hn.2.2.2, hd]
        change _ ∧ ((withinS (askP a b ((rTicks a b).getD n 0)).2 (-1000) 1000 != 0) = true → _) ∧ ((withinS (askP a b ((rTicks a b).getD n 0)).2 (-1000) 1000 != 0) = false → _)
        refine ⟨by omega, fun e => ?_, fun e => ⟨⟨by omega, by omega, by simp only [List.length_map, List.length_take]; omega⟩, by omega, n + 1, ⟨by simp, rfl, rfl, rfl, ?_⟩, ⟨by omega, h0, hn.2.2.1, ?_⟩, by omega⟩⟩
        · have e' := bne_iff_ne.1 e
          rw [if_neg e', if_pos e']
          exact ⟨rfl, rfl⟩
        · rw [← take_snoc (d := 0) g', List.map_append]; rfl
        · have e' := bne_eq_false_iff_eq.1 e
          rw [if_pos e']
      · have g' := of_decide_eq_false g
        have hE0 : rMergeE a b = 0 := by
          rw [hn.2.2.2, List.drop_eq_nil_of_le (by omega)]; rfl
        rw [hS, hE0, if_neg (by simp), List.take_of_length_le (by omega)]
        exact ⟨rfl, rfl⟩
theorem ok55 : Ok Tryz.prog 55 cRMerged := ok_of_wp mixed g122 (by kernel_rfl) (by kernel_rfl) (fun xx => annRMerged xx.1 xx.2.1) fun xx => wp55 xx.1 xx.2.1
abbrev G123 : Gam := (55, cRMerged) :: G122
theorem g123 : GamOk Tryz.prog G123 := .cons ok55 g122
end Go.Proofs.YtacaadhlobbemaaGreatDoor
namespace Go.Proofs.YtacaadhlobbemaaGreatDoor
open Go.Sx
theorem int_cop {a b c : Int} (h : a ∣ b * c) (hc : Int.gcd a b = 1) : a ∣ c := by
  have h1 := Int.natAbs_dvd_natAbs.2 h
  rw [Int.natAbs_mul] at h1
  exact Int.natAbs_dvd_natAbs.1 (Nat.Coprime.dvd_of_dvd_mul_left (show Nat.Coprime a.natAbs b.natAbs from hc) h1)
theorem lowest_parts {n d : Int} (hd : 0 < d) : ∃ g p q : Int, 0 < g ∧ n = p * g ∧ d = q * g ∧ lowestS n d = (p, q) ∧ Int.gcd p q = 1 ∧ 0 < q := by
  have hg := gcdS_pos (n := n) hd
  have h1 : n.tdiv (gcdS n d) * gcdS n d = n := Int.tdiv_mul_cancel (Int.gcd_dvd_left n d)
  have h2 : d.tdiv (gcdS n d) * gcdS n d = d := Int.tdiv_mul_cancel (Int.gcd_dvd_right n d)
  refine ⟨gcdS n d, n.tdiv (gcdS n d), d.tdiv (gcdS n d), hg, h1.symm, h2.symm, rfl, ?_, tdiv_gcd_pos hd⟩
  have h3 : Int.gcd (n.tdiv (gcdS n d) * gcdS n d) (d.tdiv (gcdS n d) * gcdS n d) = Int.gcd (n.tdiv (gcdS n d)) (d.tdiv (gcdS n d)) * (gcdS n d).natAbs := Int.gcd_mul_right _ _ _
  rw [h1, h2] at h3
  have h4 : (gcdS n d).natAbs = Int.gcd n d := by unfold gcdS; simp
  rw [h4] at h3
  have h5 : 0 < Int.gcd n d := by unfold gcdS at hg; omega
  exact (Nat.eq_of_mul_eq_mul_right h5 (by rw [Nat.one_mul]; exact h3)).symm
theorem lowest_eq {n d n' d' : Int} (hd : 0 < d) (hd' : 0 < d') (h : n * d' = n' * d) : lowestS n d = lowestS n' d' := by
  obtain ⟨g, p, q, hg, hn, hq, e, hc, hq0⟩ := lowest_parts (n := n) hd
  obtain ⟨g', p', q', hg', hn', hq', e', hc', hq0'⟩ := lowest_parts (n := n') hd'
  have k : p * q' = p' * q := by
    rw [hn, hn', hq, hq'] at h
    have h' : (p * q') * (g * g') = (p' * q) * (g * g') := by
      rw [show p * q' * (g * g') = p * g * (q' * g') by simp [Int.mul_comm, Int.mul_left_comm], h]
      simp [Int.mul_comm, Int.mul_left_comm]
    exact Int.eq_of_mul_eq_mul_right (Int.ne_of_gt (Int.mul_pos hg hg')) h'
  have d1 : q ∣ q' := by
    have : q ∣ p * q' := by rw [k]; exact Int.dvd_mul_left _ _
    have hc2 : Int.gcd q p = 1 := by rw [Int.gcd_comm]; exact hc
    exact int_cop this hc2
  have d2 : q' ∣ q := by
    have : q' ∣ p' * q := by rw [← k]; exact Int.dvd_mul_left _ _
    have hc2 : Int.gcd q' p' = 1 := by rw [Int.gcd_comm]; exact hc'
    exact int_cop this hc2
  have e1 : q = q' := Int.le_antisymm (Int.le_of_dvd hq0' d1) (Int.le_of_dvd hq0 d2)
  subst e1
  have e2 : p = p' := Int.eq_of_mul_eq_mul_right (Int.ne_of_gt hq0) k
  rw [e, e', e2]
theorem lowest_mul {k n : Int} (h : 0 < n) : lowestS (k * n) n = (k, 1) := by
  rw [lowest_eq (n' := k) (d' := 1) h (by decide) (by rw [Int.mul_one])]
  unfold lowestS gcdS
  simp
def segN (x : List (Int × Int)) (j : Nat) (v : Int) : Int := (x.getD (j - 1) (0, 0)).2 * ((x.getD j (0, 0)).1 - (x.getD (j - 1) (0, 0)).1) + ((x.getD j (0, 0)).2 - (x.getD (j - 1) (0, 0)).2) * (v - (x.getD (j - 1) (0, 0)).1)
def segW (x : List (Int × Int)) (j : Nat) : Int := (x.getD j (0, 0)).1 - (x.getD (j - 1) (0, 0)).1
theorem volt_mono {x : List (Int × Int)} (h : lineGo x none = 0) : ∀ {i j : Nat}, i < j → j < x.length → (x.getD i (0, 0)).1 < (x.getD j (0, 0)).1 := by
  intro i j hij hj
  induction j with
  | zero => omega
  | succ j ih =>
    have h1 := ((line_at h hj).2 (by omega)).1
    simp only [Nat.add_sub_cancel] at h1
    by_cases e : i = j
    · subst e; exact h1
    · exact Int.lt_trans (ih (by omega) (by omega)) h1
def inSeg (x : List (Int × Int)) (j : Nat) (v : Int) : Prop := 1 ≤ j ∧ j < x.length ∧ (x.getD (j - 1) (0, 0)).1 ≤ v ∧ v ≤ (x.getD j (0, 0)).1
theorem segW_pos {x : List (Int × Int)} {j : Nat} {v : Int} (h : lineGo x none = 0) (hj : inSeg x j v) : 0 < segW x j := by
  have := volt_mono h (i := j - 1) (j := j) (by have := hj.1; omega) hj.2.1
  unfold segW; omega
theorem seg_same' {x : List (Int × Int)} {j k : Nat} {v : Int} (h : lineGo x none = 0) (hj : inSeg x j v) (hk : inSeg x k v) (hjk : j ≤ k) : segN x j v * segW x k = segN x k v * segW x j := by
  by_cases e : j = k
  · subst e; rfl
  · have h1 : j ≤ k - 1 := by omega
    have e1 : (x.getD j (0, 0)).1 ≤ (x.getD (k - 1) (0, 0)).1 := by
      by_cases e2 : j = k - 1
      · rw [e2]; exact Int.le_refl _
      · exact Int.le_of_lt (volt_mono h (by omega) (by have := hk.2.1; omega))
    have e2 : v = (x.getD j (0, 0)).1 := by have := hj.2.2.2; have := hk.2.2.1; omega
    have e3 : j = k - 1 := by
      rcases Nat.lt_or_ge j (k - 1) with h2 | h2
      · have := volt_mono h h2 (by have := hk.2.1; omega)
        have := hk.2.2.1
        omega
      · omega
    subst e2
    unfold segN segW
    rw [← e3]
    generalize x.getD (j - 1) (0, 0) = a
    generalize x.getD j (0, 0) = b
    generalize x.getD k (0, 0) = c
    rw [Int.sub_self, Int.mul_zero, Int.add_zero, ← Int.add_mul, show a.2 + (b.2 - a.2) = b.2 by omega, Int.mul_assoc, Int.mul_assoc, Int.mul_comm (b.1 - a.1)]
theorem seg_same {x : List (Int × Int)} {j k : Nat} {v : Int} (h : lineGo x none = 0) (hj : inSeg x j v) (hk : inSeg x k v) : lowestS (segN x j v) (segW x j) = lowestS (segN x k v) (segW x k) := by
  refine lowest_eq (segW_pos h hj) (segW_pos h hk) ?_
  rcases Nat.le_total j k with hjk | hjk
  · exact seg_same' h hj hk hjk
  · exact (seg_same' h hk hj hjk).symm
theorem atS_seg {x : List (Int × Int)} {v : Int} (h : lineS x = 0) (hv : inS x v) : ∃ j, inSeg x j v ∧ atS x v = lowestS (segN x j v) (segW x j) := by
  obtain ⟨ho, hg⟩ := line_ok h
  obtain ⟨j, j1, j2, j3, j4, j5, _, _⟩ := piece_at h hv
  have hj : inSeg x j v := ⟨j1, j2, j4, j5⟩
  refine ⟨j, hj, ?_⟩
  have hw := segW_pos hg hj
  have eA : gP x (pieceS x v) = x.getD (j - 1) (0, 0) := by unfold gP; rw [j3]; congr 1; omega
  have eB : gP x (pieceS x v + 1) = x.getD j (0, 0) := by unfold gP; rw [j3]; congr 1; omega
  simp only [atS, eA, eB]
  unfold segN segW at *
  generalize x.getD (j - 1) (0, 0) = a at *
  generalize x.getD j (0, 0) = b at *
  cases hbv : b.1 == v with
  | true =>
    have hbv : b.1 = v := eq_of_beq hbv
    simp only [cond_true]
    rw [← hbv, ← Int.add_mul, show a.2 + (b.2 - a.2) = b.2 by omega, lowest_mul hw]
  | false => rfl
theorem rIdx_ok {x : List (Int × Int)} {v : Int} (hlast : v ≤ (x.getD (x.length - 1) (0, 0)).1) : ∀ {f i : Nat}, 1 ≤ i → i < x.length → x.length ≤ i + f → (x.getD (i - 1) (0, 0)).1 ≤ v → inSeg x (rIdx x v i f) v
  | 0, i, h1, h2, h3, _ => by omega
  | f + 1, i, h1, h2, h3, h4 => by
    unfold rIdx
    split
    · rename_i hlt
      have : i + 1 < x.length := by
        rcases Nat.lt_or_ge (i + 1) x.length with h | h
        · exact h
        · have : i = x.length - 1 := by omega
          rw [this] at hlt; omega
      exact rIdx_ok hlast (by omega) this (by omega) (by simp only [Nat.add_sub_cancel]; omega)
    · exact ⟨h1, h2, h4, by omega⟩
theorem rAt_seg {x : List (Int × Int)} {v : Int} (h : checkAtS x v = 0) : inSeg x (rPiece x v) v ∧ rAtS x v = (segN x (rPiece x v) v, segW x (rPiece x v)) := by
  obtain ⟨h0, h1, h2⟩ := checkAt_ok h
  obtain ⟨ho, hg⟩ := line_ok h0
  have hl := ho.1
  exact ⟨rIdx_ok h2 (Nat.le_refl _) (by omega) (by omega) h1, rfl⟩
theorem at_eq {x : List (Int × Int)} {v : Int} (h : checkAtS x v = 0) : atS x v = lowestS (rAtS x v).1 (rAtS x v).2 := by
  obtain ⟨h0, h1, h2⟩ := checkAt_ok h
  obtain ⟨j, hj, e⟩ := atS_seg h0 ⟨h1, h2⟩
  obtain ⟨hr, e'⟩ := rAt_seg h
  rw [e, e']
  exact seg_same (line_ok h0).2 hj hr
theorem seg_bd {x : List (Int × Int)} {j : Nat} {v : Int} (h : lineS x = 0) (hj : inSeg x j v) : (-1000 * segW x j ≤ segN x j v ∧ segN x j v ≤ 1000 * segW x j) ∧ 1 ≤ segW x j ∧ segW x j ≤ 1000 := by
  obtain ⟨ho, hg⟩ := line_ok h
  have hw := segW_pos hg hj
  have a0 := (line_at hg (k := j - 1) (by have := hj.2.1; omega)).1
  have b0 := (line_at hg (k := j) hj.2.1).1
  obtain ⟨j1, j2, j3, j4⟩ := hj
  unfold segN segW at *
  generalize x.getD (j - 1) (0, 0) = a at *
  generalize x.getD j (0, 0) = b at *
  have e : a.2 * (b.1 - a.1) + (b.2 - a.2) * (v - a.1) = a.2 * (b.1 - v) + b.2 * (v - a.1) := by
    rw [show b.1 - a.1 = (b.1 - v) + (v - a.1) by omega, Int.mul_add, Int.sub_mul]; omega
  rw [e]
  have m1 := mul_rng (a := a.2) (q := b.1 - v) (B := 1000) (by omega) ⟨by omega, by omega⟩
  have m2 := mul_rng (a := b.2) (q := v - a.1) (B := 1000) (by omega) ⟨by omega, by omega⟩
  generalize a.2 * (b.1 - v) = u1 at *
  generalize b.2 * (v - a.1) = u2 at *
  omega
theorem rAt_bd {x : List (Int × Int)} {v : Int} (h : checkAtS x v = 0) : (-1000000 ≤ (rAtS x v).1 ∧ (rAtS x v).1 ≤ 1000000) ∧ 1 ≤ (rAtS x v).2 ∧ (rAtS x v).2 ≤ 1000 := by
  obtain ⟨h0, _⟩ := checkAt_ok h
  obtain ⟨hr, e'⟩ := rAt_seg h
  have := seg_bd h0 hr
  rw [e']
  simp only
  omega
theorem movedGo_some {b : Int} : ∀ {l : List (Int × Int)}, (∀ p ∈ l, withinS (p.2 + b) (-1000) 1000 = 0) → movedGo b l = some (l.map fun p => (p.1, p.2 + b))
  | [], _ => rfl
  | p :: r, h => by
    have h1 := h p (by simp)
    have h2 := movedGo_some (b := b) (l := r) fun q hq => h q (by simp [hq])
    simp [movedGo, h1, h2]
theorem movedGo_none {b : Int} : ∀ {l : List (Int × Int)}, ¬ (∀ p ∈ l, withinS (p.2 + b) (-1000) 1000 = 0) → movedGo b l = none
  | [], h => absurd (by simp) h
  | p :: r, h => by
    unfold movedGo
    split
    · rfl
    · rename_i h1
      have h1 : withinS (p.2 + b) (-1000) 1000 = 0 := by simpa using h1
      have : ¬ ∀ q ∈ r, withinS (q.2 + b) (-1000) 1000 = 0 := fun h2 => h fun q hq => by
        rcases List.mem_cons.1 hq with rfl | hq
        · exact h1
        · exact h2 q hq
      rw [movedGo_none this]
theorem lineGo_moved {b : Int} : ∀ {l : List (Int × Int)} {q : Option (Int × Int)}, lineGo l q = 0 → (lineGo (l.map fun p => (p.1, p.2 + b)) (q.map fun p => (p.1, p.2 + b)) = 0 ↔ ∀ p ∈ l, withinS (p.2 + b) (-1000) 1000 = 0)
  | [], _, _ => by simp [lineGo]
  | p :: r, q, h => by
    have e0 : firstS [withinS p.1 0 1000, withinS p.2 (-1000) 1000] = 0 := by
      unfold lineGo at h
      by_cases he : firstS [withinS p.1 0 1000, withinS p.2 (-1000) 1000] = 0
      · exact he
      · simp only [ne_eq, he, not_false_eq_true, if_true] at h
    have w1 := (firstS_zero.1 e0).1
    have hr : lineGo r (some p) = 0 ∧ (∀ q', q = some q' → ¬ (p.1 ≤ q'.1 ∨ q'.2 ≤ p.2)) := by
      unfold lineGo at h
      simp only [e0, ne_eq, not_true, if_false] at h
      cases q with
      | none => exact ⟨h, fun _ e => by cases e⟩
      | some q' =>
        simp only at h
        split at h
        · simp at h
        · rename_i hn
          exact ⟨h, fun _ e => by cases e; exact hn⟩
    have ih := lineGo_moved (b := b) hr.1
    simp only [List.map_cons, List.mem_cons, forall_eq_or_imp]
    unfold lineGo
    simp only [firstS, w1, if_true]
    by_cases hw : withinS (p.2 + b) (-1000) 1000 = 0
    · simp only [hw, if_true, ne_eq, not_true, if_false, true_and]
      cases q with
      | none => exact ih
      | some q' =>
        have hn := hr.2 q' rfl
        simp only [Option.map_some]
        rw [if_neg (by omega)]
        exact ih
    · simp [hw]
theorem moved_eq {l : List (Int × Int)} {b : Int} : movedF l b = movedS l b := by
  unfold movedF movedS
  by_cases h0 : movedErr l b = 0
  · simp only [h0, ne_eq, not_true, if_false]
    have h0' := h0
    unfold movedErr at h0'
    obtain ⟨h1, _⟩ := firstS_zero.1 h0'
    have hm : lineS (l.map fun p => (p.1, p.2 + b)) = 0 ↔ ∀ p ∈ l, withinS (p.2 + b) (-1000) 1000 = 0 := by
      obtain ⟨ho, hg⟩ := line_ok h1
      have := lineGo_moved (b := b) (q := none) hg
      unfold lineS
      rw [List.length_map, if_neg (by have := ho.1; omega), if_neg (by have := ho.2.1; omega)]
      exact this
    by_cases hs : ∀ p ∈ l, withinS (p.2 + b) (-1000) 1000 = 0
    · rw [movedGo_some hs]
      simp [hm.2 hs]
    · rw [movedGo_none hs]
      have : ¬ lineS (l.map fun p => (p.1, p.2 + b)) = 0 := fun h => hs (hm.1 h)
      simp [this]
  · simp [h0]
theorem moved_len {l : List (Int × Int)} {b : Int} : (movedF l b).1.length ≤ 1000000 := by
  unfold movedF
  split
  · simp
  · rename_i h0
    have h0 : movedErr l b = 0 := by simpa using h0
    have h1 := line_ok (firstS_zero.1 h0).1
    have := h1.1.2.1
    split
    · simp
    · simp; omega
end Go.Proofs.YtacaadhlobbemaaGreatDoor
namespace Go.Proofs.YtacaadhlobbemaaGreatDoor
open Go.Sx
abbrev S : Bool × Sch := (false, .str)
abbrev aS : AK := .val false .str
def joinS (xs : List ByteArray) (sep : ByteArray) : ByteArray := ⟨(Lib.join (xs.map (·.data.toList)) sep.data.toList).toArray⟩
def cJoin : Con := { args := [.val false (.list 9 .str), aS], ress := [S], owns := [], pre := fun (xs, sep, _) => [xs.length ≤ 1000000, (Lib.join (xs.map (·.data.toList)) sep.data.toList).length ≤ 140737488355328], spec := fun (xs, sep, _) => (joinS xs sep, ()) }
def itoaS (n : Int) : ByteArray := ⟨(Lib.itoa n).toArray⟩
def cItoa : Con := { args := [aI], ress := [S], owns := [], pre := fun (n, _) => [-9223372036854775808 ≤ n ∧ n ≤ 9223372036854775807], spec := fun (n, _) => (itoaS n, ()) }
theorem below_gd (w : World) (q : Nat) (os : Array Obj) : RowKit.Below w.heap.size w (Sort.grow (w.drewN q) os) :=
  ⟨rfl, rfl, rfl, by first | (simp [Sort.grow]; done) | (simp [Sort.grow]; omega), fun i hi => by
    show ((w.drewN q).heap ++ os)[i]? = _
    rw [Array.getElem?_append_left (by show i < w.heap.size; omega)]
    rfl⟩
theorem ok171 : Ok Tryz.prog 171 cItoa := by
  refine ⟨⟨Tryz.f171, by kernel_rfl, by kernel_rfl, by kernel_rfl⟩, fun z hz => (by cases hz), fun F hF => (by cases hF), fun _ x M R w vs hM hg hpre hargs => ?_⟩
  obtain ⟨n, u⟩ := x
  obtain ⟨v, vs', rfl, ha, hr⟩ := hargs
  have hr : vs' = [] := hr
  subst hr
  obtain ⟨cs, rfl, hc⟩ := ha
  have hc : cs = [.int .i64 n] := hc
  subst hc
  have hpre : -9223372036854775808 ≤ n ∧ n ≤ 9223372036854775807 := hpre
  refine (Tryz.strconv_Itoa n hpre.1 hpre.2 w (hg w (RowKit.Below.refl _ _)).1).mono ?_
  rintro e w' ⟨rfl, k, os, rfl⟩
  exact ⟨M, [.string (itoaS n)], rfl, below_gd w k os, fun _ h => h, fun b h => .inl h, _, [], rfl, ⟨_, rfl, rfl⟩, rfl⟩
theorem repL_strs {M : Nat → Prop} {w : World} : ∀ {xs : List ByteArray} {flat : List Value}, RepL (Rep M w .str) xs flat → flat = xs.map Value.string
  | [], _, h => h
  | x :: xs, flat, ⟨c1, c2, e, h1, h2⟩ => by
    have h1 : c1 = [.string x] := h1
    rw [e, h1, repL_strs h2]; rfl
theorem ok148 : Ok Tryz.prog 148 cJoin := by
  refine ⟨⟨Tryz.f148, by kernel_rfl, by kernel_rfl, by kernel_rfl⟩, fun z hz => (by cases hz), fun F hF => (by cases hF), fun _ x M R w vs hM hg hpre hargs => ?_⟩
  obtain ⟨xs, sep, u⟩ := x
  obtain ⟨v, vs', rfl, ha, v2, vs2, rfl, hb, hr⟩ := hargs
  have hr : vs2 = [] := hr
  subst hr
  obtain ⟨cs, rfl, hc⟩ := ha
  obtain ⟨cs2, rfl, hc2⟩ := hb
  have hc2 : cs2 = [.string sep] := hc2
  subst hc2
  obtain ⟨v, flat, rfl, f1, f2⟩ := hc
  obtain ⟨p1, p2⟩ := hpre
  have hflat := repL_strs f1
  have fin : ∀ (e : Ending) (w' : World), e = .returned (.string (joinS xs sep)) → RowKit.Below w.heap.size w w' → Post M w [S] [] (joinS xs sep, ()) e w' := fun e w' he hb =>
    ⟨M, [.string (joinS xs sep)], he, hb, fun _ h => h, fun b h => .inl h, _, [], rfl, ⟨_, rfl, rfl⟩, rfl⟩
  rcases f2 with ⟨rfl | ⟨ad, cap, rfl⟩, h0⟩ | ⟨b, off, cap, rfl, hcap, hk, hm⟩
  · have : xs = [] := List.eq_nil_of_length_eq_zero h0
    subst this
    refine (Tryz.strings_Join_none none 0 sep w).mono ?_
    rintro e w' ⟨rfl, rfl⟩
    exact fin _ _ rfl (RowKit.Below.refl _ _)
  · have : xs = [] := List.eq_nil_of_length_eq_zero h0
    subst this
    refine (Tryz.strings_Join_none (some ad) cap sep w).mono ?_
    rintro e w' ⟨rfl, rfl⟩
    exact fin _ _ rfl (RowKit.Below.refl _ _)
  · cases hx : xs with
    | nil =>
      subst hx
      refine (Tryz.strings_Join_none (some ⟨b, off, none⟩) cap sep w).mono ?_
      rintro e w' ⟨rfl, rfl⟩
      exact fin _ _ rfl (RowKit.Below.refl _ _)
    | cons x0 r =>
      rw [← hx]
      have hne : flat ≠ [] := by rw [hflat, hx]; simp
      refine (Tryz.strings_Join b off cap xs sep w (fun j x hj => hk j _ (by rw [hflat, List.getElem?_map, hj]; rfl)) (hM b (.inl (hm hne))) (by omega) hcap p2).mono ?_
      rintro e w' ⟨rfl, hb⟩
      exact fin _ _ rfl hb
abbrev G124 : Gam := (148, cJoin) :: G123
theorem g124 : GamOk Tryz.prog G124 := .cons ok148 g123
abbrev G125 : Gam := (171, cItoa) :: G124
theorem g125 : GamOk Tryz.prog G125 := .cons ok171 g124
def lineTS (x : Int × Int) : ByteArray := joinS [⟨#[111, 114, 100, 101, 114]⟩, itoaS x.1, itoaS x.2] ⟨#[32]⟩ ++ ⟨#[10]⟩
def cLineT : Con := { args := [aP], ress := [S], owns := [], pre := fun (x, _) => [ordOk x], spec := fun (x, _) => (lineTS x, ()) }
theorem vc150 : ∀ (x : Int × Int), wpF Tryz.prog G125 (na ()) Tryz.f150 cLineT (x, ()) = (ordOk x → (((-9223372036854775808 : Int) ≤ x.fst ∧ x.fst ≤ (9223372036854775807 : Int)) ∧ ((-9223372036854775808 : Int) ≤ x.snd ∧ x.snd ≤ (9223372036854775807 : Int)) ∧ (3 : Nat) ≤ (1000000 : Nat) ∧ List.length ((111 : UInt8) :: (114 : UInt8) :: (100 : UInt8) :: (101 : UInt8) :: (114 : UInt8) :: (32 : UInt8) :: ([] ++ List.flatten [(itoaS x.fst).data.1, [(32 : UInt8)], (itoaS x.snd).data.1])) ≤ (140737488355328 : Nat) ∧ (↑(ByteArray.size (joinS [ByteArray.mk (Array.mk [(111 : UInt8), (114 : UInt8), (100 : UInt8), (101 : UInt8), (114 : UInt8)]), itoaS x.fst, itoaS x.snd] (ByteArray.mk (Array.mk [(32 : UInt8)]))) + (1 : Nat)) : Int) ≤ (9223372036854775807 : Int)) ∧ ByteArray.mk (Array.mk ((joinS [ByteArray.mk (Array.mk [(111 : UInt8), (114 : UInt8), (100 : UInt8), (101 : UInt8), (114 : UInt8)]), itoaS x.fst, itoaS x.snd] (ByteArray.mk (Array.mk [(32 : UInt8)]))).data.toList ++ [(10 : UInt8)])) = lineTS x) := by
  intros
  kernel_rfl
theorem wp150 (x : Int × Int) : wpF Tryz.prog G125 (na ()) Tryz.f150 cLineT (x, ()) := by
  refine (vc150 x).mpr ?_
  intro hx
  obtain ⟨h1, h2⟩ := hx
  have l1 := Lib.itoa_length_le x.1 (by omega) (by omega)
  have l2 := Lib.itoa_length_le x.2 (by omega) (by omega)
  have e : (joinS [⟨#[111, 114, 100, 101, 114]⟩, itoaS x.1, itoaS x.2] ⟨#[32]⟩).size = 5 + 1 + (Lib.itoa x.1).length + 1 + (Lib.itoa x.2).length := by
    simp [joinS, Lib.join, List.intercalate, List.intersperse, itoaS, ByteArray.size]
    omega
  refine ⟨⟨⟨by omega, by omega⟩, ⟨by omega, by omega⟩, by omega, ?_, ?_⟩, ?_⟩
  · simp [itoaS]
    omega
  · have e' := e
    generalize (joinS [⟨#[111, 114, 100, 101, 114]⟩, itoaS x.1, itoaS x.2] ⟨#[32]⟩).size = q at *
    omega
  · rfl
theorem ok150 : Ok Tryz.prog 150 cLineT := ok_of_wp mixed g125 (by kernel_rfl) (by kernel_rfl) na fun xx => wp150 xx.1
abbrev G126 : Gam := (150, cLineT) :: G125
theorem g126 : GamOk Tryz.prog G126 := .cons ok150 g125
theorem lineT_len {x : Int × Int} (hx : ordOk x) : (lineTS x).data.toList.length ≤ 60 := by
  obtain ⟨h1, h2⟩ := hx
  have l1 := Lib.itoa_length_le x.1 (by omega) (by omega)
  have l2 := Lib.itoa_length_le x.2 (by omega) (by omega)
  simp [lineTS, joinS, Lib.join, List.intercalate, List.intersperse, itoaS, ByteArray.data_append]
  omega
theorem flat_len : ∀ {l : List (List UInt8)}, (∀ x ∈ l, x.length ≤ 60) → l.flatten.length ≤ 60 * l.length
  | [], _ => by simp
  | x :: r, h => by
    have ih := flat_len (l := r) fun y hy => h y (by simp [hy])
    have hx := h x (by simp)
    simp only [List.flatten_cons, List.length_append, List.length_cons]
    omega
theorem join_len {l : List (List UInt8)} (h : ∀ x ∈ l, x.length ≤ 60) : (Lib.join l []).length ≤ 60 * l.length := by
  have : ∀ l : List (List UInt8), Lib.join l [] = l.flatten := fun l => by
    induction l with
    | nil => rfl
    | cons x r ih =>
      cases r with
      | nil => simp [Lib.join, List.intercalate]
      | cons y r =>
        have : Lib.join (x :: y :: r) [] = x ++ Lib.join (y :: r) [] := by simp [Lib.join, List.intercalate, List.intersperse]
        rw [this, ih]; rfl
  rw [this]
  exact flat_len h
def cMapStr : Con := { args := [aL 172, .fn [(true, sPt)] S], ress := [(false, .list 9 .str)], owns := [true], pre := fun (l, (q, _), _) => [l.length ≤ 1000000, ∀ x ∈ l, conj (q (x, ()))], spec := fun (l, (_, f), _) => (l.map fun x => f (x, ()), ()) }
theorem vc149 : ∀ (l : List (Int × Int)) (q : (Int × Int) × Unit → List Prop) (f : (Int × Int) × Unit → ByteArray), wpF Tryz.prog G126 (ann0 (annMap (172 : TypeId) (9 : TypeId) sPt l S true q f)) Tryz.f149 cMapStr (l, (q, f), ()) = (List.length l ≤ (1000000 : Nat) → (∀ (x : Int × Int), x ∈ l → conj (q (x, PUnit.unit))) → ∃ (x : Nat), ((↑(List.length l) : Int) = (↑(List.length l) : Int) ∧ (0 : Int) = (↑x : Int) ∧ l = l ∧ (fun (x : (Int × Int) × PUnit) => q x) = q ∧ (fun (x : (Int × Int) × PUnit) => f x) = f ∧ List.length (List.map (fun (x : Int × Int) => f (x, PUnit.unit)) (List.take x l)) = (0 : Nat)) ∧ x ≤ List.length l ∧ ∀ (x : Nat), x ≤ List.length l → (decide ((↑x : Int) < (↑(List.length l) : Int)) = true → (((0 : Int) ≤ (↑x : Int) ∧ (↑x : Int) < (↑(List.length l) : Int)) ∧ (0 : Int) ≤ (↑x : Int) ∧ (↑x : Int) < (↑(List.length l) : Int)) ∧ (conj (q (((List.getD l x ((0 : Int), (0 : Int))).fst, (List.getD l x ((0 : Int), (0 : Int))).snd), PUnit.unit)) ∧ (List.length (List.map (fun (x : Int × Int) => f (x, PUnit.unit)) (List.take x l)) + (1 : Nat)) * (16 : Nat) ≤ (140737488355328 : Nat)) ∧ ((-9223372036854775808 : Int) ≤ (↑x : Int) + (1 : Int) ∧ (↑x : Int) + (1 : Int) ≤ (9223372036854775807 : Int)) ∧ ∃ (y : Nat), ((↑(List.length l) : Int) = (↑(List.length l) : Int) ∧ (↑x : Int) + (1 : Int) = (↑y : Int) ∧ l = l ∧ (fun (x : (Int × Int) × PUnit) => q x) = q ∧ (fun (x : (Int × Int) × PUnit) => f x) = f ∧ List.map (fun (x : Int × Int) => f (x, PUnit.unit)) (List.take x l) ++ [f (((List.getD l x ((0 : Int), (0 : Int))).fst, (List.getD l x ((0 : Int), (0 : Int))).snd), PUnit.unit)] = List.map (fun (x : Int × Int) => f (x, PUnit.unit)) (List.take y l)) ∧ y ≤ List.length l ∧ List.length l - y < List.length l - x) ∧ (decide ((↑x : Int) < (↑(List.length l) : Int)) = false → List.map (fun (x : Int × Int) => f (x, PUnit.unit)) (List.take x l) = List.map (fun (x : Int × Int) => f (x, PUnit.unit)) l)) := by
  intros
  kernel_rfl
theorem wp149 (l : List (Int × Int)) (q : (Int × Int) × Unit → List Prop) (f : (Int × Int) × Unit → ByteArray) : wpF Tryz.prog G126 (ann0 (annMap 172 9 sPt l S true q f)) Tryz.f149 cMapStr (l, (q, f), ()) := by
  refine (vc149 l q f).mpr ?_
  intro hb hq
  refine ⟨(0 : Nat), ⟨rfl, rfl, rfl, rfl, rfl, by simp⟩, Nat.zero_le _, fun (k : Nat) hk => ⟨fun h => ?_, fun h => ?_⟩⟩
  · have hlt : k < l.length := by simpa using h
    refine ⟨by omega, ⟨hq (l.getD k (0, 0)) (getD_mem hlt), by simp only [List.length_map, List.length_take]; omega⟩, by omega, (k + 1 : Nat), ⟨rfl, by simp, rfl, rfl, rfl, ?_⟩, by omega, by omega⟩
    rw [← take_snoc (d := (0, 0)) hlt, List.map_append]; rfl
  · have hlt : ¬ k < l.length := by simpa using h
    rw [List.take_of_length_le (by omega)]
theorem ok149 : Ok Tryz.prog 149 cMapStr := ok_of_wp mixed g126 (by kernel_rfl) (by kernel_rfl) (fun xx => ann0 (annMap 172 9 sPt xx.1 S true xx.2.1.1 xx.2.1.2)) fun xx => wp149 xx.1 xx.2.1.1 xx.2.1.2
abbrev G127 : Gam := (149, cMapStr) :: G126
theorem g127 : GamOk Tryz.prog G127 := .cons ok149 g126
def printS (l : List (Int × Int)) : ByteArray := joinS (l.map lineTS) ByteArray.empty
def cPrint : Con := { args := [aL 172], ress := [S, I], owns := [], pre := fun _ => [], spec := fun (l, _) => (if ordersS l = 0 then printS l else ByteArray.empty, ordersS l, ()) }
theorem vc89 : ∀ (l : List (Int × Int)), wpF Tryz.prog G127 (na ()) Tryz.f89 cPrint (l, ()) = (((ordersS l != (0 : Int)) = true → (ByteArray.mk (Array.mk []) = if ordersS l = (0 : Int) then printS l else ByteArray.mk (Array.mk [])) ∧ ordersS l = ordersS l) ∧ ((ordersS l != (0 : Int)) = false → (List.length l ≤ (1000000 : Nat) ∧ (∀ (x : Int × Int), x ∈ l → ordOk x) ∧ List.length (List.map (fun (x : Int × Int) => lineTS x) l) ≤ (1000000 : Nat) ∧ List.length (Lib.join (List.map (fun (x : ByteArray) => x.data.toList) (List.map (fun (x : Int × Int) => lineTS x) l)) []) ≤ (140737488355328 : Nat)) ∧ (joinS (List.map (fun (x : Int × Int) => lineTS x) l) (ByteArray.mk (Array.mk [])) = if ordersS l = (0 : Int) then printS l else ByteArray.mk (Array.mk [])) ∧ (0 : Int) = ordersS l)) := by
  intros
  kernel_rfl
theorem wp89 (l : List (Int × Int)) : wpF Tryz.prog G127 (na ()) Tryz.f89 cPrint (l, ()) := by
  refine (vc89 l).mpr ?_
  refine ⟨fun h => ?_, fun h => ?_⟩
  · have h0 := bne_iff_ne.1 h
    rw [if_neg h0]; exact ⟨rfl, rfl⟩
  · have h0 := bne_eq_false_iff_eq.1 h
    have hl := orders_len h0
    have ha := orders_all h0
    rw [if_pos h0]
    refine ⟨⟨by omega, ha, by rw [List.length_map]; omega, ?_⟩, rfl, h0.symm⟩
    have hj := join_len (l := (l.map fun x => lineTS x).map fun x => x.data.toList) fun y hy => by
      obtain ⟨z, hz, rfl⟩ := List.mem_map.1 hy
      obtain ⟨u, hu, rfl⟩ := List.mem_map.1 hz
      exact lineT_len (ha u hu)
    rw [List.length_map, List.length_map] at hj
    exact Nat.le_trans hj (by omega)
theorem ok89 : Ok Tryz.prog 89 cPrint := ok_of_wp mixed g127 (by kernel_rfl) (by kernel_rfl) na fun xx => wp89 xx.1
abbrev G128 : Gam := (89, cPrint) :: G127
theorem g128 : GamOk Tryz.prog G128 := .cons ok89 g127
end Go.Proofs.YtacaadhlobbemaaGreatDoor
namespace Go.Proofs.YtacaadhlobbemaaGreatDoor
open Go.Sx
def growP (_ : Nat → Option Res) (n : Nat) (args : List SV) : Option Out := match args with
  | [.v false [.val (.slice none 0 0)], .v false [.int .i64 k]] => some ⟨[0 ≤ k ∧ k ≤ 1000000], .one (.sl n), [.own 172 sPt []], []⟩
  | _ => none
def cGrow : Con := { args := [], ress := [], owns := [], pre := fun _ => [False], spec := fun _ => (), prim := some growP }
theorem grow_ok : PrimOk Tryz.prog 161 growP := by
  intro N B w0 al τ σ a w ρ M R n d rs args out C hd hrs hop hpre hfresh
  unfold growP at hop
  split at hop
  · rename_i k
    cases hop
    have hk : 0 ≤ k ∧ k ≤ 1000000 := hpre
    have hn : ¬ al n := fun h => hfresh n h ⟨Nat.le_refl _, by simp⟩
    obtain ⟨m, rfl⟩ := Int.eq_ofNat_of_zero_le hk.1
    have hm : m ≤ 1000000 := by omega
    rcases Nat.eq_zero_or_pos m with h0 | h0
    · subst h0
      refine ⟨_, Tryz.grow161_none w, fun e w' hp => ?_⟩
      obtain ⟨rfl, rfl⟩ := hp
      have hne : ∀ id, al id → id ≠ n := fun id h e => hn (e ▸ h)
      have en : newEnv ρ n [Value.slice none 0 0] n = .slice none 0 0 := newEnv_new (i := 0) rfl
      have eo : ∀ id, al id → newEnv ρ n [Value.slice none 0 0] id = ρ id := fun id h => newEnv_old (by have := hne id h; simp; omega)
      refine ⟨_, newEnv ρ n [.slice none 0 0], M, rfl, ?_⟩
      refine C.step hd (fun id h => by have := hne id h; simp; omega) (fun id h => newEnv_old (by simpa using h)) (by show _ = Sx.valOf false [newEnv ρ n _ n]; rw [en]; rfl) (fun id hid => ?_) (RowKit.Below.refl _ _) (Nat.le_refl _) (fun _ h => h) (fun b h => C.old b (.inl h)) (fun _ _ => rfl) ?_ ?_ ?_ ?_
      · have : id = n := by simpa [SV.ids, idsL, SC.ids] using hid
        exact .inr ⟨by omega, by simp; omega⟩
      · intro r x _ _ hx ho b hb
        exact ⟨rfl, (C.notM hx ho hb).1⟩
      · rintro r x hx (h | h)
        · have er : r = n := by simp at h; omega
          subst er
          rw [setS_new h] at hx
          simp at hx
          subst hx
          refine ⟨⟨[], rfl, ⟨by simp, .inl ⟨en, rfl⟩⟩, fun g hg => by rw [en] at hg; cases hg⟩, .inr h, fun id hid => by simp [Res.ids] at hid⟩
        · exact absurd rfl h
      · intro id h
        have er : id = n := by simp at h; omega
        subst er
        rw [en]; rfl
      · rintro r r' x1 x2 hne' h1 h2 o1 o2 (h | h) b hb1 hb2
        · have er : r = n := by simp at h; omega
          subst er
          rw [en] at hb1; cases hb1
        · exact absurd rfl h
    · refine ⟨_, Tryz.grow161 m w h0 hm, fun e w' hp => ?_⟩
      obtain ⟨cap, cur, rfl, rfl, hcur, hcap⟩ := hp
      have C0 : Corr Tryz.prog N B w0 al τ σ a w.drew ρ M R := C.world (w' := w.drew) rfl ⟨rfl, rfl, rfl, Nat.le_refl _, fun _ _ => rfl⟩
      obtain ⟨ρ', hC⟩ := C0.allocRes (n := n) (d := d) (x := .own 172 sPt []) (v := .sl n) (u := .slice (some ⟨w.heap.size, 0, none⟩) 0 cap) hd hn (.cells cur 172) rfl rfl (fun ρ' h => h) (fun id h => by simpa [SC.ids] using h) (fun id h => by simp [Res.ids] at h) (fun ρ' h5 _ => by
        refine ⟨[], rfl, ⟨by simp, .inr ⟨w.heap.size, cap, cur, h5, C.base, heap_alloc_new w.drew _, Nat.zero_le _, hcap, hcur, by simp⟩⟩, fun g hg => ?_⟩
        rw [h5] at hg; cases hg
        exact ⟨fun h => Nat.lt_irrefl _ (C.old w.heap.size (.inl h)), fun h => Nat.lt_irrefl _ (C.old w.heap.size (.inr h))⟩)
      exact ⟨_, ρ', M, rfl, hC⟩
  · cases hop
theorem ok161 : Ok Tryz.prog 161 cGrow := ⟨⟨Tryz.f161, by kernel_rfl, by kernel_rfl, by kernel_rfl⟩, fun z hz => (by cases hz), fun F hF => (by cases hF; exact grow_ok), fun _ x M R w vs _ _ hpre _ => False.elim hpre⟩
abbrev G129 : Gam := (161, cGrow) :: G128
theorem g129 : GamOk Tryz.prog G129 := .cons ok161 g128
def tickLt (x y : Int × Int) : Bool := decide (x.1 < y.1)
def insT (x : Int × Int) : List (Int × Int) → List (Int × Int)
  | [] => [x]
  | y :: r => if x.1 < y.1 then x :: y :: r else y :: insT x r
def isortT : List (Int × Int) → List (Int × Int)
  | [] => []
  | x :: r => insT x (isortT r)
def tickNe (l : List (Int × Int)) : Prop := l.Pairwise fun x y => x.1 ≠ y.1
def cSort : Con := { args := [], ress := [], owns := [], pre := fun _ => [False], spec := fun _ => (), srt := some { T := 172, s := sPt, g := 128, pre := fun l => tickNe l ∧ l.length ≤ 1000000, f := isortT } }
theorem insT_perm (x : Int × Int) : ∀ l, (insT x l).Perm (x :: l)
  | [] => .refl _
  | y :: r => by
    simp only [insT]
    split
    · exact .refl _
    · exact ((insT_perm x r).cons y).trans (.swap x y r)
theorem isort_perm : ∀ l, (isortT l).Perm l
  | [] => .refl _
  | x :: r => (insT_perm x _).trans ((isort_perm r).cons x)
theorem insT_sorted {x : Int × Int} : ∀ {l : List (Int × Int)}, l.Pairwise (fun y z => y.1 < z.1) → (∀ y ∈ l, x.1 ≠ y.1) → (insT x l).Pairwise fun y z => y.1 < z.1
  | [], _, _ => by simp [insT]
  | y :: r, h, hne => by
    replace h := List.pairwise_cons.1 h
    simp only [insT]
    split
    · rename_i hlt
      refine List.pairwise_cons.2 ⟨fun z hz => ?_, List.pairwise_cons.2 h⟩
      rcases List.mem_cons.1 hz with rfl | hz
      · exact hlt
      · have := h.1 z hz; omega
    · rename_i hlt
      have h1 := hne y (by simp)
      refine List.pairwise_cons.2 ⟨fun z hz => ?_, insT_sorted h.2 fun z hz => hne z (by simp [hz])⟩
      rcases List.mem_cons.1 ((insT_perm x r).mem_iff.1 hz) with rfl | hz
      · omega
      · exact h.1 z hz
theorem isort_sorted : ∀ {l : List (Int × Int)}, tickNe l → (isortT l).Pairwise fun y z => y.1 < z.1
  | [], _ => by simp [isortT]
  | x :: r, h => by
    replace h := List.pairwise_cons.1 h
    exact insT_sorted (isort_sorted h.2) fun y hy => h.1 y ((isort_perm r).mem_iff.1 hy)
theorem strict_unique : ∀ {l l' : List (Int × Int)}, l.Perm l' → (l.Pairwise fun y z => y.1 < z.1) → (l'.Pairwise fun y z => y.1 < z.1) → l = l'
  | [], l', h, _, _ => by simpa using h
  | x :: r, [], h, _, _ => by simp at h
  | x :: r, y :: r', h, h1, h2 => by
    by_cases e : x = y
    · subst e
      rw [strict_unique h.cons_inv (List.pairwise_cons.1 h1).2 (List.pairwise_cons.1 h2).2]
    · have m1 : x ∈ r' := by
        have := h.mem_iff.1 (show x ∈ x :: r by simp)
        rcases List.mem_cons.1 this with q | q
        · exact absurd q e
        · exact q
      have m2 : y ∈ r := by
        have := h.mem_iff.2 (show y ∈ y :: r' by simp)
        rcases List.mem_cons.1 this with q | q
        · exact absurd q.symm e
        · exact q
      have l1 := (List.pairwise_cons.1 h1).1 y m2
      have l2 := (List.pairwise_cons.1 h2).1 x m1
      omega
theorem tickNe_perm {l l' : List (Int × Int)} (h : l.Perm l') (hn : tickNe l) : tickNe l' := (List.Perm.pairwise_iff (R := fun x y : Int × Int => x.1 ≠ y.1) (fun q => Ne.symm q) h).1 hn
theorem isort_same {l l' : List (Int × Int)} (h : l.Perm l') (hn : tickNe l) : isortT l = isortT l' :=
  strict_unique ((isort_perm l).trans (h.trans (isort_perm l').symm)) (isort_sorted hn) (isort_sorted (tickNe_perm h hn))
theorem flat_enc {M : Nat → Prop} {w : World} : ∀ {xs : List (Int × Int)} {flat : List Value}, RepL (Rep M w sPt) xs flat → flat = xs.flatMap Tryz.encO
  | [], _, h => h
  | x :: xs, flat, ⟨c1, c2, e, ⟨d1, d2, e1, h1, h2⟩, h3⟩ => by
    have h1 : d1 = [.int .i64 x.1] := h1
    have h2 : d2 = [.int .i64 x.2] := h2
    rw [e, e1, h1, h2, flat_enc h3]; rfl
theorem enc_flat {M : Nat → Prop} {w : World} : ∀ {xs : List (Int × Int)}, RepL (Rep M w sPt) xs (xs.flatMap Tryz.encO)
  | [] => rfl
  | x :: xs => ⟨Tryz.encO x, xs.flatMap Tryz.encO, rfl, ⟨[.int .i64 x.1], [.int .i64 x.2], rfl, rfl, rfl⟩, enc_flat⟩
theorem encO_get : ∀ (xs : List (Int × Int)) (j : Nat), j < xs.length * 2 → (xs.flatMap Tryz.encO)[j]? = (Tryz.encO (xs.getD (j / 2) (0, 0)))[j % 2]?
  | [], j, h => by simp at h
  | x :: xs, 0, _ => rfl
  | x :: xs, 1, _ => rfl
  | x :: xs, j + 2, h => by
    have ih := encO_get xs j (by simp at h; omega)
    have e1 : (j + 2) / 2 = j / 2 + 1 := by omega
    have e2 : (j + 2) % 2 = j % 2 := by omega
    rw [e1, e2, List.getD_cons_succ, ← ih]
    rfl
theorem flatK_list (d : Array (Int × Int)) : (Sort.flatK Tryz.encO 2 d).toList = d.toList.flatMap Tryz.encO := by
  apply List.ext_getElem?
  intro j
  by_cases hj : j < d.size * 2
  · rw [encO_get d.toList j (by simpa using hj)]
    have h1 : (Sort.flatK Tryz.encO 2 d)[j]! = (Tryz.encO d[j / 2]!)[j % 2]! := Sort.get_flatK _ _ _ _ hj
    have hs : j < (Sort.flatK Tryz.encO 2 d).size := by simpa using hj
    rw [Array.getElem?_toList, Array.getElem?_eq_getElem hs]
    rw [getElem!_pos (Sort.flatK Tryz.encO 2 d) j hs] at h1
    rw [h1]
    have e : d[j / 2]! = d.toList.getD (j / 2) (0, 0) := by
      have : j / 2 < d.size := by omega
      rw [getElem!_pos d (j / 2) this, List.getD_eq_getElem?_getD, Array.getElem?_toList, Array.getElem?_eq_getElem this]
      rfl
    rw [e]
    have hl : (Tryz.encO (d.toList.getD (j / 2) (0, 0))).length = 2 := rfl
    have h2 : j % 2 < (Tryz.encO (d.toList.getD (j / 2) (0, 0))).length := by rw [hl]; omega
    rw [getElem!_pos (Tryz.encO (d.toList.getD (j / 2) (0, 0))) (j % 2) h2, List.getElem?_eq_getElem h2]
  · have hl : (d.toList.flatMap Tryz.encO).length = d.size * 2 := by
      have : ∀ l : List (Int × Int), (l.flatMap Tryz.encO).length = l.length * 2 := fun l => by
        induction l with
        | nil => rfl
        | cons x r ih => simp [Tryz.encO, ih]; omega
      rw [this]; simp
    rw [List.getElem?_eq_none (by simp; omega), List.getElem?_eq_none (by omega)]
theorem sort_ok : SortOk Tryz.prog 127 { T := 172, s := sPt, g := 128, pre := fun l => tickNe l ∧ l.length ≤ 1000000, f := isortT } := by
  intro w B v xs flat hB hg hrep how hpre
  obtain ⟨hne, hlen⟩ := hpre
  have hflat := flat_enc hrep
  have hl0 : (isortT xs).length = xs.length := (isort_perm xs).length_eq
  rcases how.2 with ⟨rfl, h0⟩ | ⟨g, cap, cur, rfl, hbg, hgh, hnc, hcm, hcs, htake⟩
  · have : xs = [] := List.eq_nil_of_length_eq_zero h0
    subst this
    have := Tryz.sort127_none none 0 w
    refine this.mono ?_
    rintro e w' ⟨rfl, rfl⟩
    exact ⟨rfl, rfl, flat, hrep, how, World.grownBy.refl _ _⟩
  · have hlt := (Array.getElem?_eq_some_iff.1 hgh).1
    have hH : Sort.HoldsK Tryz.encO 2 w g 0 xs.toArray := by
      intro j hj
      have hj' : j < xs.length * 2 := by simpa using hj
      have h1 := how.cellAt j hj'
      have h2 := how.frozenAt j
      rw [Nat.zero_add]
      refine ⟨?_, h2⟩
      rw [h1, hflat, ← flatK_list xs.toArray, Array.getElem?_toList, Array.getElem?_eq_getElem hj, getElem!_pos (Sort.flatK Tryz.encO 2 xs.toArray) j hj]
      rfl
    have hc := Tryz.sort127 g cap xs.toArray w hH hlt (by simp; omega)
    simp only [List.size_toArray] at hc
    refine hc.mono ?_
    rintro e w' ⟨rfl, d', n, os, hp, hs, rfl⟩
    obtain ⟨hsz, _, hperm⟩ := hp
    have hsz : d'.size = xs.length := by simpa using hsz
    have hperm' : d'.toList.Perm xs := by
      have e1 : (d'.extract 0 xs.length).toList = d'.toList := by rw [← hsz]; simp
      have e2 : (xs.toArray.extract 0 xs.length).toList = xs := by simp
      rw [e1, e2] at hperm
      exact hperm
    have hnd : tickNe d'.toList := tickNe_perm hperm'.symm hne
    have hsorted : d'.toList.Pairwise fun y z => y.1 < z.1 := by
      rw [List.pairwise_iff_getElem]
      intro i j hi hj hij
      have hi' : i < d'.size := by simpa using hi
      have hj' : j < d'.size := by simpa using hj
      have h1 := hs i j (Nat.zero_le _) hij (by omega)
      rw [Tryz.ltO, getElem!_pos d' i hi', getElem!_pos d' j hj'] at h1
      have h2 := (List.pairwise_iff_getElem.1 hnd) i j hi hj hij
      have h1 : ¬ d'[j].1 < d'[i].1 := of_decide_eq_false h1
      have e1 : d'.toList[i] = d'[i] := by simp
      have e2 : d'.toList[j] = d'[j] := by simp
      rw [e1, e2] at h2 ⊢
      omega
    have hd : d'.toList = isortT xs := strict_unique (hperm'.trans (isort_perm xs).symm) hsorted (isort_sorted hne)
    have hK : (Sort.flatK Tryz.encO 2 d').size = xs.length * 2 := by simp [hsz]
    have hheap : (sortWorldK Tryz.encO 2 w g 0 n d' os).heap[g]? = some (.cells (Sort.putCells id 0 (Sort.flatK Tryz.encO 2 d') cur) 172 (0, 0)) := by
      show ((w.heap.modify g (Sort.onCells (Sort.putCells id 0 (Sort.flatK Tryz.encO 2 d')))) ++ os)[g]? = _
      rw [Array.getElem?_append_left (by simpa using hlt), Array.getElem?_modify, if_pos rfl, hgh]
      rfl
    have hmul : xs.length * 2 ≤ cur.size := by rw [hcs]; exact Nat.mul_le_mul_right _ hnc
    have htk : (Sort.putCells id 0 (Sort.flatK Tryz.encO 2 d') cur).toList.take (xs.length * 2) = (isortT xs).flatMap Tryz.encO := by
      rw [← hd, ← flatK_list]
      apply List.ext_getElem?
      intro j
      rw [List.getElem?_take]
      split
      · rename_i hj
        have hjc : j < cur.size := by omega
        rw [Array.getElem?_toList, Array.getElem?_toList]
        simp only [Sort.putCells, Array.getElem?_mapIdx, Array.getElem?_eq_getElem hjc, Option.map_some, Nat.zero_le, true_and, Nat.zero_add, Nat.sub_zero]
        rw [if_pos (by omega), Array.getElem?_eq_getElem (by omega), getElem!_pos (Sort.flatK Tryz.encO 2 d') j (by omega)]
        rfl
      · rename_i hj
        rw [List.getElem?_eq_none (by simp; omega)]
    refine ⟨rfl, hl0, _, enc_flat, ⟨?_, .inr ⟨g, cap, _, rfl, hbg, hheap, hnc, hcm, by simp [Sort.putCells, hcs], htk⟩⟩, ⟨rfl, rfl, rfl, ?_, fun k hk hne => ?_⟩⟩
    · have := (enc_flat (M := fun _ => False) (w := w) (xs := isortT xs)).length
      rw [this, hl0]
    · show w.heap.size ≤ ((w.heap.modify g _) ++ os).size
      simp
    · have hkg : k ≠ g := by rintro rfl; exact hne rfl
      show ((w.heap.modify g _) ++ os)[k]? = _
      rw [Array.getElem?_append_left (by simpa using hk), Array.getElem?_modify, if_neg (Ne.symm hkg)]
theorem ok127 : Ok Tryz.prog 127 cSort := ⟨⟨Tryz.f127, by kernel_rfl, by kernel_rfl, by kernel_rfl⟩, fun z hz => (by cases hz; exact sort_ok), fun F hF => (by cases hF), fun _ x M R w vs _ _ hpre _ => False.elim hpre⟩
abbrev G130 : Gam := (127, cSort) :: G129
theorem g130 : GamOk Tryz.prog G130 := .cons ok127 g129
end Go.Proofs.YtacaadhlobbemaaGreatDoor
