/- Contracts of the functions that the laws reach: part of the proof. -/
import Derived.Test.YtcledkhhecdppaaGreatDoorFB
import Derived.Lib.ItoaLen
set_option linter.unusedSimpArgs false
set_option linter.unusedVariables false
set_option maxRecDepth 20000
namespace Go.Proofs.YtcledkhhecdppaaGreatDoor
instance drOff : Sx.Dr := Sx.Dr.off
open Go.Sx
set_option maxHeartbeats 20000000
set_option pp.deepTerms true
set_option pp.maxSteps 1000000
def cIns117 : Con := { args := [], ress := [], owns := [], pre := fun _ => [False], spec := fun _ => (), prim := some (insP 166 sPt) }
theorem ok117 : Ok Tryz.prog 117 cIns117 := ⟨⟨Tryz.f117, by kernel_rfl, by kernel_rfl, by kernel_rfl⟩, fun z hz => (by cases hz), fun F hF => (by cases hF; exact insP_ok fun w B v n flat i vb vc vcur vs => Tryz.ins117 w B v n flat i vb vc vcur vs), fun _ x M R w vs _ _ hpre _ => False.elim hpre⟩
abbrev G120 : Gam := (117, cIns117) :: G119
theorem g120 : GamOk Tryz.prog G120 := .cons ok117 g119
def cIns118 : Con := { args := [], ress := [], owns := [], pre := fun _ => [False], spec := fun _ => (), prim := some (insP 3 sI) }
theorem ok118 : Ok Tryz.prog 118 cIns118 := ⟨⟨Tryz.f118, by kernel_rfl, by kernel_rfl, by kernel_rfl⟩, fun z hz => (by cases hz), fun F hF => (by cases hF; exact insP_ok fun w B v n flat i vb vc vcur vs => Tryz.ins118 w B v n flat i vb vc vcur vs), fun _ x M R w vs _ _ hpre _ => False.elim hpre⟩
abbrev G121 : Gam := (118, cIns118) :: G120
theorem g121 : GamOk Tryz.prog G121 := .cons ok118 g120
def cClone (T : TypeId) (s : Sch) : Con := { args := [.val false (.list T s)], ress := [(false, .list T s)], owns := [true], pre := fun (l, _) => [l.length ≤ 1000000], spec := fun (l, _) => (l, ()) }
theorem repL_ints {M : Nat → Prop} {w : World} : ∀ {xs : List Int} {flat : List Value}, RepL (Rep M w (.int .i64)) xs flat → flat = xs.map (Value.int .i64)
 | [], _, h => h
 | x :: xs, _, ⟨c1, c2, rfl, h1, h2⟩ => by
  have h1 : c1 = [.int .i64 x] := h1
  rw [h1, repL_ints h2]; rfl
theorem repL_mkI {M : Nat → Prop} {w : World} : ∀ (xs : List Int), RepL (Rep M w (.int .i64)) xs (xs.map (Value.int .i64))
 | [] => rfl
 | x :: xs => ⟨[.int .i64 x], xs.map (Value.int .i64), rfl, rfl, repL_mkI xs⟩
theorem ok119 : Ok Tryz.prog 119 (cClone 3 sI) := by
 refine ⟨⟨Tryz.f119, by kernel_rfl, by kernel_rfl, by kernel_rfl⟩, fun z hz => (by cases hz), fun F hF => (by cases hF), fun _ x M R w vs hM hg hpre hargs => ?_⟩
 obtain ⟨l, u⟩ := x
 obtain ⟨v1, vs1, rfl, ⟨cs, rfl, hr⟩, hn⟩ := hargs
 have hn : vs1 = [] := hn
 subst hn
 obtain ⟨v, flat, rfl, h1, h2⟩ := hr
 have hfl := repL_ints h1
 have hl : l.length ≤ 1000000 := hpre
 have fin : ∀ (v' : Value) (w' : World), w'.ownsRow w.heap.size 3 1 v' l.length (l.map (Value.int .i64)) → RowKit.Below w.heap.size w w' → Post M w (cClone 3 sI).ress (cClone 3 sI).owns ((cClone 3 sI).spec (l, u)) (.returned v') w' := by
  intro v' w' ho hb
  refine ⟨M, [v'], rfl, .ofK hb, fun _ h => h, fun b h => .inl h, _, [], rfl, ⟨l.map (Value.int .i64), repL_mkI l, ho, fun g hg' hMg => ?_⟩, rfl⟩
  rcases ho.2 with ⟨rfl, _⟩ | ⟨g', cap, cur, rfl, hbg, _⟩
  ·cases hg'
  ·have : g' = g := Option.some.inj hg'
   have := hM g (.inl hMg)
   omega
 rcases h2 with ⟨rfl | ⟨ad, cap, rfl⟩, h0⟩ | ⟨b, off, cap, rfl, hcap, hk, hm⟩
 ·have : l = [] := List.eq_nil_of_length_eq_zero h0
  subst this
  refine (Tryz.slices_Clone_int_nil 0 0 w).mono ?_
  rintro e w' ⟨rfl, rfl⟩
  exact fin _ _ ⟨rfl, .inl ⟨rfl, rfl⟩⟩ (RowKit.Below.refl _ _)
 ·have : l = [] := List.eq_nil_of_length_eq_zero h0
  subst this
  refine (Tryz.slices_Clone_int_zero ad cap w).mono ?_
  rintro e w' ⟨v', rfl, ho, _, hb⟩
  exact fin _ _ ho hb
 ·refine (Tryz.slices_Clone_int b off l.length cap l w (Nat.le_refl _) (by omega) (fun j hj => hk j _ (by rw [hfl, List.getElem?_map, List.getElem?_eq_getElem hj]; simp [List.getD_eq_getElem?_getD, List.getElem?_eq_getElem hj]))).mono ?_
  rintro e w' ⟨v', rfl, ho, _, hb⟩
  rw [List.take_of_length_le (Nat.le_refl _)] at ho
  exact fin _ _ ho hb
abbrev G122 : Gam := (119, (cClone 3 sI)) :: G121
theorem g122 : GamOk Tryz.prog G122 := .cons ok119 g121
def splGE (c : Cab) (s t : Int) : Int := if c.1.length = 6 then 5 else if partQ (c.1.getD s.toNat (0, 0)) t = 0 then 16 else 0
def splG (c : Cab) (s t : Int) : Cab := if splGE c s t = 0 then splitC c s.toNat t else ([], [], 0, 0)
def splF (c : Cab) (s t : Int) : Cab := if splE c s t = 0 then splG c s t else ([], [], 0, 0)
def splEE (c : Cab) (s t : Int) : Int := if splE c s t = 0 then splGE c s t else splE c s t
def cSplit : Con := { args := [aC, aI, aI], ress := [(true, sCab 166), I], owns := [], pre := fun (c, _) => [c.1.length ≤ 1000000, c.2.1.length ≤ 1000000], spec := fun (c, s, t, _) => (splF c s t, splEE c s t, ()) }
theorem split_set {α : Type} {y : α} : ∀ {l : List α} {s : Nat}, s < l.length → (l.set s y).take s = l.take s ∧ (l.set s y).drop s = y :: l.drop (s + 1)
 | [], _, h => absurd h (by simp)
 | _ :: _, 0, _ => ⟨rfl, rfl⟩
 | x :: l, s + 1, h => by
  have ih := split_set (y := y) (l := l) (s := s) (by simpa using h)
  exact ⟨congrArg (x :: ·) ih.1, ih.2⟩
theorem fs2 (c : Cab) (s : Int) : firstS [cabS c, secE c s] = if cabS c = 0 then secE c s else cabS c := by
 simp only [firstS]
 by_cases h : cabS c = 0
 ·rw [if_pos h, if_pos h]
  by_cases h2 : secE c s = 0
  ·rw [if_pos h2, h2]
  ·rw [if_neg h2]
 ·rw [if_neg h, if_neg h]
theorem splE_ne {c : Cab} {s : Int} (t : Int) (h : firstS [cabS c, secE c s] ≠ 0) : splE c s t = firstS [cabS c, secE c s] := by
 rw [fs2] at h ⊢
 unfold splE
 by_cases hc : cabS c = 0
 ·rw [if_pos hc] at h
  rw [if_pos hc, if_pos hc, if_neg h]
  rcases secE_cases c s with q | q
  ·exact absurd q h
  ·exact q.symm
 ·rw [if_neg hc, if_neg hc]
theorem splGE_first (c : Cab) (s t : Int) : firstS [bif (c.1.length : Int) == 6 then 5 else 0, bif partQ (c.1.getD s.toNat (0, 0)) t == 0 then 16 else 0] = splGE c s t := by
 unfold splGE
 rw [zero_ite]
 by_cases h : c.1.length = 6
 ·have e : ((c.1.length : Int) == 6) = true := by rw [h]; rfl
  rw [e, if_pos h]; rfl
 ·have e : ((c.1.length : Int) == 6) = false := beq_eq_false_iff_ne.2 (by omega)
  rw [e, if_neg h]
  by_cases h2 : partQ (c.1.getD s.toNat (0, 0)) t = 0
  ·rw [if_pos h2]; rfl
  ·rw [if_neg h2]; rfl
def vc54_0 (c : Cab) (s t : Int) := (List.getD c.1 (Int.toNat s) ((0 : Int), (0 : Int)))
def vc54_1 (c : Cab) (s t : Int) := (List.set c.1 (Int.toNat s) ((vc54_0 c s t).1 - Int.tdiv ((vc54_0 c s t).1 * t) (vc54_0 c s t).2, (vc54_0 c s t).2 - t))
def vc54_2 (c : Cab) (s t : Int) := (c.1, c.2.1, c.2.2.1, c.2.2.2)
theorem vc54 : ∀ (c : Cab) (s t : Int), wpF Tryz.prog G122 (na ()) Tryz.f54 cSplit (c, s, t, ()) = (List.length c.1 ≤ (1000000 : Nat) → List.length c.2.1 ≤ (1000000 : Nat) → (List.length c.1 ≤ (1000000 : Nat) ∧ List.length c.2.1 ≤ (1000000 : Nat) ∧ List.length c.1 ≤ (1000000 : Nat) ∧ (2 : Nat) ≤ (1000000 : Nat)) ∧ ((firstS [cabS (vc54_2 c s t), secE (vc54_2 c s t) s] != (0 : Int)) = true → ([], [], (0 : Int), (0 : Int)) = splF c s t ∧ firstS [cabS (vc54_2 c s t), secE (vc54_2 c s t) s] = splEE c s t) ∧ ((firstS [cabS (vc54_2 c s t), secE (vc54_2 c s t) s] != (0 : Int)) = false → (((0 : Int) ≤ s ∧ s < (↑(List.length c.1) : Int)) ∧ (0 : Int) ≤ s ∧ s < (↑(List.length c.1) : Int)) ∧ (cabS (vc54_2 c s t) = (0 : Int) ∧ (0 : Int) ≤ s ∧ s < (↑(List.length c.1) : Int)) ∧ ((offE (vc54_2 c s t) s t != (0 : Int)) = true → ([], [], (0 : Int), (0 : Int)) = splF c s t ∧ offE (vc54_2 c s t) s t = splEE c s t) ∧ ((offE (vc54_2 c s t) s t != (0 : Int)) = false → (((-9223372036854775808 : Int) ≤ (vc54_0 c s t).1 * t ∧ (vc54_0 c s t).1 * t ≤ (9223372036854775807 : Int)) ∧ ((vc54_0 c s t).2 = (0 : Int) → False) ∧ (-9223372036854775808 : Int) ≤ Int.tdiv ((vc54_0 c s t).1 * t) (vc54_0 c s t).2 ∧ Int.tdiv ((vc54_0 c s t).1 * t) (vc54_0 c s t).2 ≤ (9223372036854775807 : Int)) ∧ (2 : Nat) ≤ (1000000 : Nat) ∧ ((firstS [bif (↑(List.length c.1) : Int) == (6 : Int) then (5 : Int) else (0 : Int), bif Int.tdiv ((vc54_0 c s t).1 * t) (vc54_0 c s t).2 == (0 : Int) then (16 : Int) else (0 : Int)] != (0 : Int)) = true → ([], [], (0 : Int), (0 : Int)) = splF c s t ∧ firstS [bif (↑(List.length c.1) : Int) == (6 : Int) then (5 : Int) else (0 : Int), bif Int.tdiv ((vc54_0 c s t).1 * t) (vc54_0 c s t).2 == (0 : Int) then (16 : Int) else (0 : Int)] = splEE c s t) ∧ ((firstS [bif (↑(List.length c.1) : Int) == (6 : Int) then (5 : Int) else (0 : Int), bif Int.tdiv ((vc54_0 c s t).1 * t) (vc54_0 c s t).2 == (0 : Int) then (16 : Int) else (0 : Int)] != (0 : Int)) = false → (((0 : Int) ≤ (↑(List.length c.1) : Int) ∧ (↑(List.length c.1) : Int) ≤ (1000000 : Int)) ∧ (↑(List.length c.1) : Int) ≤ (↑(List.length c.1) : Int) ∧ (↑(List.length c.1) : Int) ≤ (1000000 : Int)) ∧ (List.length c.1 = List.length (List.replicate (List.length c.1) ((0 : Int), (0 : Int))) ∧ (0 : Nat) < List.length (List.replicate (List.length c.1) ((0 : Int), (0 : Int)))) ∧ (((-9223372036854775808 : Int) ≤ (vc54_0 c s t).1 - Int.tdiv ((vc54_0 c s t).1 * t) (vc54_0 c s t).2 ∧ (vc54_0 c s t).1 - Int.tdiv ((vc54_0 c s t).1 * t) (vc54_0 c s t).2 ≤ (9223372036854775807 : Int)) ∧ ((-9223372036854775808 : Int) ≤ (vc54_0 c s t).2 - t ∧ (vc54_0 c s t).2 - t ≤ (9223372036854775807 : Int)) ∧ ((0 : Int) ≤ s ∧ s < (↑(List.length c.1) : Int)) ∧ (0 : Int) ≤ s ∧ s < (↑(List.length c.1) : Int)) ∧ (((0 : Int) ≤ s ∧ s ≤ (↑(List.length (vc54_1 c s t)) : Int)) ∧ (1 : Nat) = (1 : Nat) ∧ List.length (vc54_1 c s t) ≤ (1000000 : Nat) ∧ List.length c.2.1 ≤ (1000000 : Nat) ∧ ((0 : Int) ≤ s ∧ s ≤ (↑(List.length c.2.1) : Int)) ∧ (1 : Nat) = (1 : Nat) ∧ List.length c.2.1 ≤ (1000000 : Nat)) ∧ (List.take (Int.toNat s) (vc54_1 c s t) ++ [(Int.tdiv ((vc54_0 c s t).1 * t) (vc54_0 c s t).2, t)] ++ List.drop (Int.toNat s) (vc54_1 c s t), List.take (Int.toNat s) c.2.1 ++ [(0 : Int)] ++ List.drop (Int.toNat s) c.2.1, c.2.2.1, c.2.2.2) = splF c s t ∧ (0 : Int) = splEE c s t)))) := by
 intros
 kernel_rfl
theorem wp54 (c : Cab) (s t : Int) : wpF Tryz.prog G122 (na ()) Tryz.f54 cSplit (c, s, t, ()) := by
 refine (vc54 c s t).mpr ?_
 delta vc54_0 vc54_1 vc54_2
 intro h1 h2
 refine ⟨⟨h1, h2, h1, by omega⟩, fun h => ?_, fun h => ?_⟩
 ·have h : ¬ firstS [cabS c, secE c s] = 0 := bne_iff_ne.1 h
  have e := splE_ne t h
  have h' : ¬ splE c s t = 0 := by rw [e]; exact h
  unfold splF splEE
  rw [if_neg h', if_neg h', e]
  exact ⟨rfl, rfl⟩
 have hz : firstS [cabS c, secE c s] = 0 := bne_eq_false_iff_eq.1 h
 have hc : cabS c = 0 := by
  by_cases hc : cabS c = 0
  ·exact hc
  ·rw [fs2, if_neg hc] at hz; exact absurd hz hc
 have hs : secE c s = 0 := by rw [fs2, if_pos hc] at hz; exact hz
 have hr := secE_zero.1 hs
 have hv : cabV c := cabS_V hc
 have he : splE c s t = offE c s t := by unfold splE; rw [if_pos hc, if_pos hs]
 refine ⟨⟨hr, hr⟩, ⟨hc, hr⟩, fun h => ?_, fun h => ?_⟩
 ·have h' : ¬ splE c s t = 0 := by rw [he]; exact bne_iff_ne.1 h
  unfold splF splEE
  rw [if_neg h', if_neg h', he]
  exact ⟨rfl, rfl⟩
 have ho : offE c s t = 0 := bne_eq_false_iff_eq.1 h
 have h0 : splE c s t = 0 := by rw [he]; exact ho
 have b := hv.2.2.1 _ (getD_mem (d := (0, 0)) (l := c.1) (k := s.toNat) (by omega))
 have ht := within_zero.1 ho
 have hq := partQ_bd (t := t) b (by omega)
 have eq : ((c.1.getD s.toNat (0, 0)).1 * t).tdiv (c.1.getD s.toNat (0, 0)).2 = partQ (c.1.getD s.toNat (0, 0)) t := rfl
 rw [eq, splGE_first]
 have hm : 0 ≤ (c.1.getD s.toNat (0, 0)).1 * t := Int.mul_nonneg (by omega) (by omega)
 have hm2 : (c.1.getD s.toNat (0, 0)).1 * t ≤ 100000 * 64 := Int.mul_le_mul (by omega) (by omega) (by omega) (by omega)
 have eF : splF c s t = splG c s t := by unfold splF; rw [if_pos h0]
 have eE : splEE c s t = splGE c s t := by unfold splEE; rw [if_pos h0]
 rw [eF, eE]
 refine ⟨⟨by omega, fun h => by omega, by omega⟩, by omega, fun h => ?_, fun h => ?_⟩
 ·unfold splG
  rw [if_neg (bne_iff_ne.1 h)]
  exact ⟨rfl, rfl⟩
 have hg : splGE c s t = 0 := bne_eq_false_iff_eq.1 h
 have hs' : s.toNat < c.1.length := by omega
 have hl := hv.2.1
 have hl2 := hv.2.2.2.1
 have q1 : 0 ≤ s ∧ s ≤ (c.2.1.length : Int) := by omega
 have q2 : ∀ y, 0 ≤ s ∧ s ≤ ((c.1.set s.toNat y).length : Int) := fun y => by rw [List.length_set]; omega
 have q3 : ∀ y, (c.1.set s.toNat y).length ≤ 1000000 := fun y => by rw [List.length_set]; omega
 refine ⟨⟨by omega, by omega⟩, ⟨by simp, by simp; omega⟩, ⟨by omega, by omega, hr, hr⟩, ⟨q2 _, rfl, q3 _, h2, q1, rfl, h2⟩, ?_, hg.symm⟩
 have e := split_set (y := ((c.1.getD s.toNat (0, 0)).1 - partQ (c.1.getD s.toNat (0, 0)) t, (c.1.getD s.toNat (0, 0)).2 - t)) hs'
 unfold splG
 rw [if_pos hg]
 rw [e.1, e.2]
 unfold splitC splitL
 rw [List.append_assoc, List.append_assoc]
 rfl
theorem ok54 : Ok Tryz.prog 54 cSplit := ok_of_wp mixed g122 (by kernel_rfl) (by kernel_rfl) na fun xx => wp54 xx.1 xx.2.1 xx.2.2.1
abbrev G123 : Gam := (54, cSplit) :: G122
theorem g123 : GamOk Tryz.prog G123 := .cons ok54 g122
set_option maxHeartbeats 20000000
def joinS (xs : List ByteArray) (sep : ByteArray) : ByteArray := ⟨(Lib.join (xs.map (·.data.toList)) sep.data.toList).toArray⟩
def cJoin : Con := { args := [.val false (.list 9 .str), aS], ress := [tS], owns := [], pre := fun (xs, sep, _) => [xs.length ≤ 1000000, (Lib.join (xs.map (·.data.toList)) sep.data.toList).length ≤ 140737488355328], spec := fun (xs, sep, _) => (joinS xs sep, ()) }
def itoaS (n : Int) : ByteArray := ⟨(Lib.itoa n).toArray⟩
def cItoa : Con := { args := [aI], ress := [tS], owns := [], pre := fun (n, _) => [-9223372036854775808 ≤ n ∧ n ≤ 9223372036854775807], spec := fun (n, _) => (itoaS n, ()) }
theorem below_gd (w : World) (q : Nat) (os : Array Obj) : RowKit.Below w.heap.size w (Sort.grow (w.drewN q) os) :=
 ⟨rfl, rfl, rfl, by first | (simp [Sort.grow]; done) | (simp [Sort.grow]; omega), fun i hi => by
  show ((w.drewN q).heap ++ os)[i]? = _
  rw [Array.getElem?_append_left (by show i < w.heap.size; omega)]
  rfl⟩
theorem ok134 : Ok Tryz.prog 134 cItoa := by
 refine ⟨⟨Tryz.f134, by kernel_rfl, by kernel_rfl, by kernel_rfl⟩, fun z hz => (by cases hz), fun F hF => (by cases hF), fun _ x M R w vs hM hg hpre hargs => ?_⟩
 obtain ⟨n, u⟩ := x
 obtain ⟨v, vs', rfl, ha, hr⟩ := hargs
 have hr : vs' = [] := hr
 subst hr
 obtain ⟨cs, rfl, hc⟩ := ha
 have hc : cs = [.int .i64 n] := hc
 subst hc
 have hpre : -9223372036854775808 ≤ n ∧ n ≤ 9223372036854775807 := hpre
 refine (Tryz.strconv_Itoa n hpre.1 hpre.2 w (hg w (Sx.Below.refl _ _)).1).mono ?_
 rintro e w' ⟨rfl, k, os, rfl⟩
 exact ⟨M, [.string (itoaS n)], rfl, .ofK (below_gd w k os), fun _ h => h, fun b h => .inl h, _, [], rfl, ⟨_, rfl, rfl⟩, rfl⟩
theorem repL_strs {M : Nat → Prop} {w : World} : ∀ {xs : List ByteArray} {flat : List Value}, RepL (Rep M w .str) xs flat → flat = xs.map Value.string
 | [], _, h => h
 | x :: xs, flat, ⟨c1, c2, e, h1, h2⟩ => by
  have h1 : c1 = [.string x] := h1
  rw [e, h1, repL_strs h2]; rfl
theorem ok162 : Ok Tryz.prog 162 cJoin := by
 refine ⟨⟨Tryz.f162, by kernel_rfl, by kernel_rfl, by kernel_rfl⟩, fun z hz => (by cases hz), fun F hF => (by cases hF), fun _ x M R w vs hM hg hpre hargs => ?_⟩
 obtain ⟨xs, sep, u⟩ := x
 obtain ⟨v, vs', rfl, ha, v2, vs2, rfl, hb, hr⟩ := hargs
 have hr : vs2 = [] := hr
 subst hr
 obtain ⟨cs, rfl, hc⟩ := ha
 obtain ⟨cs2, rfl, hc2⟩ := hb
 have hc2 : cs2 = [.string sep] := hc2
 subst hc2
 obtain ⟨v, flat, rfl, f1, f2⟩ := hc
 obtain ⟨p1, p2⟩ := hpre
 have hflat := repL_strs f1
 have fin : ∀ (e : Ending) (w' : World), e = .returned (.string (joinS xs sep)) → RowKit.Below w.heap.size w w' → Post M w [tS] [] (joinS xs sep, ()) e w' := fun e w' he hb =>
  ⟨M, [.string (joinS xs sep)], he, .ofK hb, fun _ h => h, fun b h => .inl h, _, [], rfl, ⟨_, rfl, rfl⟩, rfl⟩
 rcases f2 with ⟨rfl | ⟨ad, cap, rfl⟩, h0⟩ | ⟨b, off, cap, rfl, hcap, hk, hm⟩
 ·have : xs = [] := List.eq_nil_of_length_eq_zero h0
  subst this
  refine (Tryz.strings_Join_none none 0 sep w).mono ?_
  rintro e w' ⟨rfl, rfl⟩
  exact fin _ _ rfl (RowKit.Below.refl _ _)
 ·have : xs = [] := List.eq_nil_of_length_eq_zero h0
  subst this
  refine (Tryz.strings_Join_none (some ad) cap sep w).mono ?_
  rintro e w' ⟨rfl, rfl⟩
  exact fin _ _ rfl (RowKit.Below.refl _ _)
 ·cases hx : xs with
  | nil =>
   subst hx
   refine (Tryz.strings_Join_none (some ⟨b, off, none⟩) cap sep w).mono ?_
   rintro e w' ⟨rfl, rfl⟩
   exact fin _ _ rfl (RowKit.Below.refl _ _)
  | cons x0 r =>
   rw [← hx]
   have hne : flat ≠ [] := by rw [hflat, hx]; simp
   refine (Tryz.strings_Join b off cap xs sep w (fun j x hj => hk j _ (by rw [hflat, List.getElem?_map, hj]; rfl)) (hM b (.inl (hm hne))) (by omega) hcap p2).mono ?_
   rintro e w' ⟨rfl, hb⟩
   exact fin _ _ rfl hb
abbrev G124 : Gam := (162, cJoin) :: G123
theorem g124 : GamOk Tryz.prog G124 := .cons ok162 g123
abbrev G125 : Gam := (134, cItoa) :: G124
theorem g125 : GamOk Tryz.prog G125 := .cons ok134 g124
def lineS (xs : List ByteArray) : ByteArray := joinS xs ⟨#[32]⟩ ++ ⟨#[10]⟩
theorem join_le {sep : List UInt8} (hs : sep.length = 1) : ∀ {l : List (List UInt8)}, (∀ x ∈ l, x.length ≤ 40) → (Lib.join l sep).length ≤ 41 * l.length
 | [], _ => by simp [Lib.join, List.intercalate]
 | [x], h => by
  have := h x (by simp)
  simp [Lib.join, List.intercalate, List.intersperse]
  omega
 | x :: y :: r, h => by
  have ih := join_le hs (l := y :: r) fun z hz => h z (by simp [List.mem_cons.1 hz])
  have hx := h x (by simp)
  have e : Lib.join (x :: y :: r) sep = x ++ sep ++ Lib.join (y :: r) sep := by simp [Lib.join, List.intercalate, List.intersperse]
  rw [e]
  simp only [List.length_append, List.length_cons] at ih ⊢
  omega
theorem joinS_size {xs : List ByteArray} (hx : ∀ x ∈ xs, x.size ≤ 40) : (Lib.join (xs.map (·.data.toList)) [32]).length ≤ 41 * xs.length := by
 have := join_le (sep := [32]) rfl (l := xs.map (·.data.toList)) fun x hx' => by
  obtain ⟨y, hy, rfl⟩ := List.mem_map.1 hx'
  exact hx y hy
 rw [List.length_map] at this
 exact this
theorem lineS_size {xs : List ByteArray} (hx : ∀ x ∈ xs, x.size ≤ 40) : (lineS xs).size ≤ 41 * xs.length + 1 := by
 have h := joinS_size hx
 have e : (lineS xs).size = (Lib.join (xs.map (·.data.toList)) [32]).length + 1 := by
  unfold lineS
  rw [ByteArray.size_append]; rfl
 omega
def cLine : Con := { args := [.val false (.list 9 .str)], ress := [tS], owns := [], pre := fun (xs, _) => [xs.length ≤ 100, ∀ x ∈ xs, x.size ≤ 40], spec := fun (xs, _) => (lineS xs, ()) }
theorem vc133 : ∀ (xs : List ByteArray), wpF Tryz.prog G125 (na ()) Tryz.f133 cLine (xs, ()) = (List.length xs ≤ 100 → (∀ (x : ByteArray), x ∈ xs → ByteArray.size x ≤ 40) → (List.length xs ≤ 1000000 ∧ List.length (Lib.join (List.map (fun (x : ByteArray) => x.data.toList) xs) [(32 : UInt8)]) ≤ 140737488355328 ∧ (↑(ByteArray.size (joinS xs (ByteArray.mk (Array.mk [(32 : UInt8)]))) + 1) : Int) ≤ 9223372036854775807) ∧ ByteArray.mk (Array.mk ((joinS xs (ByteArray.mk (Array.mk [(32 : UInt8)]))).data.toList ++ [(10 : UInt8)])) = lineS xs) := by
 intros
 kernel_rfl
theorem wp133 (xs : List ByteArray) : wpF Tryz.prog G125 (na ()) Tryz.f133 cLine (xs, ()) := by
 refine (vc133 xs).mpr ?_
 intro h1 h2
 have e := joinS_size h2
 have e2 : (joinS xs ⟨⟨[32]⟩⟩).size = (Lib.join (xs.map (·.data.toList)) [32]).length := rfl
 exact ⟨⟨by omega, Nat.le_trans e (by omega), by rw [e2]; omega⟩, rfl⟩
theorem ok133 : Ok Tryz.prog 133 cLine := ok_of_wp mixed g125 (by kernel_rfl) (by kernel_rfl) na fun xx => wp133 xx.1
abbrev G126 : Gam := (133, cLine) :: G125
theorem g126 : GamOk Tryz.prog G126 := .cons ok133 g125
def headL (c : Cab) : ByteArray := lineS [⟨#[99, 97, 98, 108, 101]⟩, itoaS c.2.2.1, itoaS c.2.2.2]
def jointL (n : Int) : ByteArray := lineS [⟨#[106, 111, 105, 110, 116]⟩, itoaS n]
def secL (x : Int × Int) : ByteArray := lineS [⟨#[115, 101, 99, 116, 105, 111, 110]⟩, itoaS x.1, itoaS x.2]
def outN (c : Cab) : Nat → ByteArray
 | 0 => headL c
 | k + 1 => (if k = 0 then outN c k else outN c k ++ jointL (c.2.1.getD (k - 1) 0)) ++ secL (c.1.getD k (0, 0))
def printS (c : Cab) : ByteArray := outN c c.1.length
theorem itoaS_size (n : Int) (h0 : -9223372036854775808 ≤ n) (h1 : n ≤ 9223372036854775807) : (itoaS n).size ≤ 40 := by
 have := Lib.itoa_length_le n h0 h1
 have e : (itoaS n).size = (Lib.itoa n).length := rfl
 omega
theorem fac_bd {c : Cab} (hv : cabV c) (k : Nat) : -8 ≤ c.2.1.getD k 0 ∧ c.2.1.getD k 0 ≤ 8 := by
 by_cases h : k < c.2.1.length
 ·exact hv.2.2.2.2.1 _ (getD_mem h)
 ·rw [List.getD_eq_getElem?_getD, List.getElem?_eq_none (by omega)]
  exact ⟨by decide, by decide⟩
theorem sec_bd {c : Cab} (hv : cabV c) (k : Nat) : (0 ≤ (c.1.getD k (0, 0)).1 ∧ (c.1.getD k (0, 0)).1 ≤ 100000) ∧ 0 ≤ (c.1.getD k (0, 0)).2 ∧ (c.1.getD k (0, 0)).2 ≤ 64 := by
 by_cases h : k < c.1.length
 ·have := hv.2.2.1 _ (getD_mem (d := (0, 0)) h)
  omega
 ·rw [List.getD_eq_getElem?_getD, List.getElem?_eq_none (by omega)]
  exact ⟨⟨by decide, by decide⟩, by decide, by decide⟩
theorem head_sm {c : Cab} (hv : cabV c) : ∀ x ∈ [(⟨#[99, 97, 98, 108, 101]⟩ : ByteArray), itoaS c.2.2.1, itoaS c.2.2.2], x.size ≤ 40 := by
 have h := hv.2.2.2.2.2
 intro x hx
 rcases List.mem_cons.1 hx with rfl | hx
 ·decide
 rcases List.mem_cons.1 hx with rfl | hx
 ·exact itoaS_size _ (by omega) (by omega)
 rcases List.mem_cons.1 hx with rfl | hx
 ·exact itoaS_size _ (by omega) (by omega)
 ·cases hx
theorem joint_sm {n : Int} (h : -8 ≤ n ∧ n ≤ 8) : ∀ x ∈ [(⟨#[106, 111, 105, 110, 116]⟩ : ByteArray), itoaS n], x.size ≤ 40 := by
 intro x hx
 rcases List.mem_cons.1 hx with rfl | hx
 ·decide
 rcases List.mem_cons.1 hx with rfl | hx
 ·exact itoaS_size _ (by omega) (by omega)
 ·cases hx
theorem sec_sm {p : Int × Int} (h : (0 ≤ p.1 ∧ p.1 ≤ 100000) ∧ 0 ≤ p.2 ∧ p.2 ≤ 64) : ∀ x ∈ [(⟨#[115, 101, 99, 116, 105, 111, 110]⟩ : ByteArray), itoaS p.1, itoaS p.2], x.size ≤ 40 := by
 intro x hx
 rcases List.mem_cons.1 hx with rfl | hx
 ·decide
 rcases List.mem_cons.1 hx with rfl | hx
 ·exact itoaS_size _ (by omega) (by omega)
 rcases List.mem_cons.1 hx with rfl | hx
 ·exact itoaS_size _ (by omega) (by omega)
 ·cases hx
theorem jointL_size {n : Int} (h : -8 ≤ n ∧ n ≤ 8) : (jointL n).size ≤ 83 := lineS_size (joint_sm h)
theorem secL_size {p : Int × Int} (h : (0 ≤ p.1 ∧ p.1 ≤ 100000) ∧ 0 ≤ p.2 ∧ p.2 ≤ 64) : (secL p).size ≤ 124 := lineS_size (sec_sm h)
theorem outN_size {c : Cab} (hv : cabV c) : ∀ k, (outN c k).size ≤ 124 + 207 * k
 | 0 => lineS_size (head_sm hv)
 | k + 1 => by
  have ih := outN_size hv k
  have h1 := secL_size (sec_bd hv k)
  have h2 := jointL_size (fac_bd hv (k - 1))
  unfold outN
  rw [ByteArray.size_append]
  split
  ·omega
  ·rw [ByteArray.size_append]; omega
abbrev annPrint (c : Cab) : Ann := { X := Nat, σ := fun k => ⟨3, [(1, .one (.ptr 2 0)), (5, .one (.str (outN c k))), (24, .one (.sl 0)), (25, .one (.int .i64 c.1.length)), (26, .one (.int .i64 k))], [(0, .imm 166 sPt c.1), (1, .imm 3 sI c.2.1), (2, .box 37 [.sl 0, .sl 1, .int .i64 c.2.2.1, .int .i64 c.2.2.2])]⟩, inv := fun k => k ≤ c.1.length, mu := fun k => c.1.length - k }
def cPrint : Con := { args := [aC], ress := [tS, I], owns := [], pre := fun (c, _) => [c.1.length ≤ 1000000, c.2.1.length ≤ 1000000], spec := fun (c, _) => (if cabS c = 0 then printS c else ⟨⟨[]⟩⟩, cabS c, ()) }
def vc76_0 (c : Cab) (x : Nat) := (lineS [ByteArray.mk (Array.mk [(115 : UInt8), (101 : UInt8), (99 : UInt8), (116 : UInt8), (105 : UInt8), (111 : UInt8), (110 : UInt8)]), itoaS (List.getD c.1 x ((0 : Int), (0 : Int))).1, itoaS (List.getD c.1 x ((0 : Int), (0 : Int))).2])
def vc76_1 (c : Cab) (x : Nat) := (lineS [ByteArray.mk (Array.mk [(106 : UInt8), (111 : UInt8), (105 : UInt8), (110 : UInt8), (116 : UInt8)]), itoaS (List.getD c.2.1 (Int.toNat ((↑x : Int) - (1 : Int))) (0 : Int))])
def vc76_2 (c : Cab) (x : Nat) := (List.getD c.1 x ((0 : Int), (0 : Int)))
theorem vc76 : ∀ (c : Cab), wpF Tryz.prog G126 (ann0 (annPrint c)) Tryz.f76 cPrint (c, ()) = (List.length c.1 ≤ 1000000 → List.length c.2.1 ≤ 1000000 → (List.length c.1 ≤ 1000000 ∧ List.length c.2.1 ≤ 1000000) ∧ ((cabS (c.1, c.2.1, c.2.2.1, c.2.2.2) != 0) = true → (ByteArray.mk (Array.mk []) = if cabS c = 0 then printS c else ByteArray.mk (Array.mk [])) ∧ cabS (c.1, c.2.1, c.2.2.1, c.2.2.2) = cabS c) ∧ ((cabS (c.1, c.2.1, c.2.2.1, c.2.2.2) != 0) = false → ((I64 c.2.2.1) ∧ (I64 c.2.2.2) ∧ 3 ≤ 100 ∧ ∀ (x : ByteArray), x ∈ [ByteArray.mk (Array.mk [(99 : UInt8), (97 : UInt8), (98 : UInt8), (108 : UInt8), (101 : UInt8)]), itoaS c.2.2.1, itoaS c.2.2.2] → ByteArray.size x ≤ 40) ∧ ∃ (x : Nat), (lineS [ByteArray.mk (Array.mk [(99 : UInt8), (97 : UInt8), (98 : UInt8), (108 : UInt8), (101 : UInt8)]), itoaS c.2.2.1, itoaS c.2.2.2] = outN c x ∧ (↑(List.length c.1) : Int) = (↑(List.length c.1) : Int) ∧ 0 = (↑x : Int) ∧ c.1 = c.1 ∧ c.2.1 = c.2.1 ∧ c.2.2.1 = c.2.2.1 ∧ c.2.2.2 = c.2.2.2) ∧ x ≤ List.length c.1 ∧ ∀ (x : Nat), x ≤ List.length c.1 → (decide ((↑x : Int) < (↑(List.length c.1) : Int)) = true → ((0 ≤ (↑x : Int) ∧ (↑x : Int) < (↑(List.length c.1) : Int)) ∧ 0 ≤ (↑x : Int) ∧ (↑x : Int) < (↑(List.length c.1) : Int)) ∧ (decide (0 < (↑x : Int)) = true → (((-9223372036854775808) ≤ (↑x : Int) - 1 ∧ (↑x : Int) - (1 : Int) ≤ 9223372036854775807) ∧ (0 ≤ (↑x : Int) - 1 ∧ (↑x : Int) - 1 < (↑(List.length c.2.1) : Int)) ∧ (0 ≤ (↑x : Int) - 1 ∧ (↑x : Int) - 1 < (↑(List.length c.2.1) : Int)) ∧ ((-9223372036854775808) ≤ List.getD c.2.1 (Int.toNat ((↑x : Int) - 1)) 0 ∧ List.getD c.2.1 (Int.toNat ((↑x : Int) - 1)) (0 : Int) ≤ 9223372036854775807) ∧ 2 ≤ 100 ∧ (∀ (x_1 : ByteArray), x_1 ∈ [ByteArray.mk (Array.mk [(106 : UInt8), (111 : UInt8), (105 : UInt8), (110 : UInt8), (116 : UInt8)]), itoaS (List.getD c.2.1 (Int.toNat ((↑x : Int) - 1)) 0)] → ByteArray.size x_1 ≤ 40) ∧ (↑(ByteArray.size (outN c x) + ByteArray.size (vc76_1 c x)) : Int) ≤ 9223372036854775807) ∧ ((I64 ((vc76_2 c x).1)) ∧ (I64 ((vc76_2 c x).2)) ∧ 3 ≤ 100 ∧ (∀ (x_1 : ByteArray), x_1 ∈ [ByteArray.mk (Array.mk [(115 : UInt8), (101 : UInt8), (99 : UInt8), (116 : UInt8), (105 : UInt8), (111 : UInt8), (110 : UInt8)]), itoaS (vc76_2 c x).1, itoaS (vc76_2 c x).2] → ByteArray.size x_1 ≤ 40) ∧ (↑(ByteArray.size (ByteArray.mk (Array.mk ((outN c x).data.toList ++ (vc76_1 c x).data.toList))) + ByteArray.size (vc76_0 c x)) : Int) ≤ 9223372036854775807) ∧ ((-9223372036854775808) ≤ (↑x : Int) + 1 ∧ (↑x : Int) + (1 : Int) ≤ 9223372036854775807) ∧ ∃ (y : Nat), (ByteArray.mk (Array.mk ((Array.mk ((outN c x).data.toList ++ (vc76_1 c x).data.toList)).toList ++ (vc76_0 c x).data.toList)) = outN c y ∧ (↑(List.length c.1) : Int) = (↑(List.length c.1) : Int) ∧ (↑x : Int) + 1 = (↑y : Int) ∧ c.1 = c.1 ∧ c.2.1 = c.2.1 ∧ c.2.2.1 = c.2.2.1 ∧ c.2.2.2 = c.2.2.2) ∧ y ≤ List.length c.1 ∧ List.length c.1 - y < List.length c.1 - x) ∧ (decide (0 < (↑x : Int)) = false → ((I64 ((vc76_2 c x).1)) ∧ (I64 ((vc76_2 c x).2)) ∧ 3 ≤ 100 ∧ (∀ (x_1 : ByteArray), x_1 ∈ [ByteArray.mk (Array.mk [(115 : UInt8), (101 : UInt8), (99 : UInt8), (116 : UInt8), (105 : UInt8), (111 : UInt8), (110 : UInt8)]), itoaS (vc76_2 c x).1, itoaS (vc76_2 c x).2] → ByteArray.size x_1 ≤ 40) ∧ (↑(ByteArray.size (outN c x) + ByteArray.size (vc76_0 c x)) : Int) ≤ 9223372036854775807) ∧ ((-9223372036854775808) ≤ (↑x : Int) + 1 ∧ (↑x : Int) + (1 : Int) ≤ 9223372036854775807) ∧ ∃ (y : Nat), (ByteArray.mk (Array.mk ((outN c x).data.toList ++ (vc76_0 c x).data.toList)) = outN c y ∧ (↑(List.length c.1) : Int) = (↑(List.length c.1) : Int) ∧ (↑x : Int) + 1 = (↑y : Int) ∧ c.1 = c.1 ∧ c.2.1 = c.2.1 ∧ c.2.2.1 = c.2.2.1 ∧ c.2.2.2 = c.2.2.2) ∧ y ≤ List.length c.1 ∧ List.length c.1 - y < List.length c.1 - x)) ∧ (decide ((↑x : Int) < (↑(List.length c.1) : Int)) = false → (outN c x = if cabS c = 0 then printS c else ByteArray.mk (Array.mk [])) ∧ 0 = cabS c))) := by
 intros
 kernel_rfl
theorem wp76 (c : Cab) : wpF Tryz.prog G126 (ann0 (annPrint c)) Tryz.f76 cPrint (c, ()) := by
 refine (vc76 c).mpr ?_
 delta vc76_0 vc76_1 vc76_2
 delta I64
 intro h1 h2
 refine ⟨⟨h1, h2⟩, fun h => ?_, fun h => ?_⟩
 ·have h : ¬ cabS c = 0 := bne_iff_ne.1 h
  rw [if_neg h]; exact ⟨rfl, rfl⟩
 have hc : cabS c = 0 := bne_eq_false_iff_eq.1 h
 have hv : cabV c := cabS_V hc
 have he := hv.2.2.2.2.2
 have hl := hv.2.1
 have hl2 := hv.2.2.2.1
 refine ⟨⟨by omega, by omega, by omega, head_sm hv⟩, (0 : Nat), ⟨rfl, rfl, rfl, rfl, rfl, rfl, rfl⟩, Nat.zero_le _, fun (k : Nat) hk => ⟨fun h => ?_, fun h => ?_⟩⟩
 ·have hlt : k < c.1.length := by simpa using h
  have b1 := sec_bd hv k
  have s0 := outN_size hv k
  have s1 := secL_size b1
  refine ⟨by omega, fun h3 => ?_, fun h3 => ?_⟩
  ·have h3 : 0 < k := by simpa using h3
   have ek : ((k : Int) - 1).toNat = k - 1 := by omega
   rw [ek]
   have b2 := fac_bd hv (k - 1)
   have s2 := jointL_size b2
   have s3 : (outN c k ++ jointL (c.2.1.getD (k - 1) 0)).size = (outN c k).size + (jointL (c.2.1.getD (k - 1) 0)).size := ByteArray.size_append
   refine ⟨⟨by omega, by omega, by omega, by omega, by omega, joint_sm b2, ?_⟩, ⟨by omega, by omega, by omega, sec_sm b1, ?_⟩, by omega, (k + 1 : Nat), ⟨?_, rfl, by simp, rfl, rfl, rfl, rfl⟩, by omega, by omega⟩
   ·show (((outN c k).size + (jointL (c.2.1.getD (k - 1) 0)).size : Nat) : Int) ≤ _
    omega
   ·show (((outN c k ++ jointL (c.2.1.getD (k - 1) 0)).size + (secL (c.1.getD k (0, 0))).size : Nat) : Int) ≤ _
    omega
   ·have eo : outN c (k + 1) = (outN c k ++ jointL (c.2.1.getD (k - 1) 0)) ++ secL (c.1.getD k (0, 0)) := by rw [outN, if_neg (by omega)]
    rw [eo]
    apply ByteArray.ext
    apply Array.ext'
    simp only [ByteArray.data_append, Array.toList_append]
    rfl
  ·have h3 : ¬ 0 < k := by simpa using h3
   have h0 : k = 0 := by omega
   refine ⟨⟨by omega, by omega, by omega, sec_sm b1, ?_⟩, by omega, (k + 1 : Nat), ⟨?_, rfl, by simp, rfl, rfl, rfl, rfl⟩, by omega, by omega⟩
   ·show (((outN c k).size + (secL (c.1.getD k (0, 0))).size : Nat) : Int) ≤ _
    omega
   ·have eo : outN c (k + 1) = outN c k ++ secL (c.1.getD k (0, 0)) := by rw [outN, if_pos h0]
    rw [eo]
    apply ByteArray.ext
    apply Array.ext'
    simp only [ByteArray.data_append, Array.toList_append]
    rfl
 ·have hlt : ¬ k < c.1.length := by simpa using h
  have : k = c.1.length := by omega
  subst this
  rw [if_pos hc]
  exact ⟨rfl, hc.symm⟩
theorem ok76 : Ok Tryz.prog 76 cPrint := ok_of_wp mixed g126 (by kernel_rfl) (by kernel_rfl) (fun xx => ann0 (annPrint xx.1)) fun xx => wp76 xx.1
abbrev G127 : Gam := (76, cPrint) :: G126
theorem g127 : GamOk Tryz.prog G127 := .cons ok76 g126
set_option maxHeartbeats 20000000
def cAwake : Con := { args := [], ress := [Bo], owns := [], pre := fun _ => [], spec := fun _ => (true, ()) }
def vc16_0 := (lineC.1, lineC.2.1, lineC.2.2.1, lineC.2.2.2)
def vc16_1 := (faultC.1, faultC.2.1, faultC.2.2.1, faultC.2.2.2)
def vc16_2 := (ByteArray.mk (Array.mk [(65 : UInt8)]))
def vc16_3 := ((2 : Nat) ≤ (1000000 : Nat) ∧ (1 : Nat) ≤ (1000000 : Nat))
def vc16_4 := (((3145728 : Int), (3145728 : Int)), (2 : Int), (5505024 : Int), (10 : Int))
def vc16_5 := (ByteArray.mk (Array.mk [(66 : UInt8)]))
def vc16_6 := (((0 : Int), (1 : Int)), (12 : Int), (15 : Int), ByteArray.mk (Array.mk [(65 : UInt8)]))
theorem vc16 : wpF Tryz.prog G127 (na ()) Tryz.f16 cAwake () = (vc16_3 ∧ vc16_3 ∧ vc16_3 ∧ vc16_3 ∧ vc16_3 ∧ vc16_3 ∧ vc16_3 ∧ vc16_3 ∧ vc16_3 ∧ vc16_3 ∧ (((-9223372036854775808) ≤ cabS vc16_0 + placeE vc16_0 6 ∧ cabS vc16_0 + placeE vc16_0 (6 : Int) ≤ 9223372036854775807) ∧ ((-9223372036854775808) ≤ cabS vc16_0 + placeE vc16_0 6 + winS vc16_0 vc16_1 10 ∧ cabS vc16_0 + placeE vc16_0 6 + winS vc16_0 vc16_1 (10 : Int) ≤ 9223372036854775807) ∧ ((-9223372036854775808) ≤ cabS vc16_0 + placeE vc16_0 6 + winS vc16_0 vc16_1 10 + winS vc16_0 vc16_1 10 ∧ cabS vc16_0 + placeE vc16_0 6 + winS vc16_0 vc16_1 10 + winS vc16_0 vc16_1 (10 : Int) ≤ 9223372036854775807) ∧ (I64 (cabS vc16_0 + placeE vc16_0 6 + winS vc16_0 vc16_1 10 + winS vc16_0 vc16_1 10 + dirEE vc16_0 vc16_1 vc16_5)) ∧ (I64 (cabS vc16_0 + placeE vc16_0 6 + winS vc16_0 vc16_1 10 + winS vc16_0 vc16_1 10 + dirEE vc16_0 vc16_1 vc16_5 + factorE vc16_0 0 vc16_5)) ∧ (I64 (cabS vc16_0 + placeE vc16_0 6 + winS vc16_0 vc16_1 10 + winS vc16_0 vc16_1 10 + dirEE vc16_0 vc16_1 vc16_5 + factorE vc16_0 0 vc16_5 + factorE vc16_0 1 vc16_2)) ∧ (I64 (cabS vc16_0 + placeE vc16_0 6 + winS vc16_0 vc16_1 10 + winS vc16_0 vc16_1 10 + dirEE vc16_0 vc16_1 vc16_5 + factorE vc16_0 0 vc16_5 + factorE vc16_0 1 vc16_2 + thEE vc16_0 vc16_6)) ∧ I64 (cabS vc16_0 + placeE vc16_0 6 + winS vc16_0 vc16_1 10 + winS vc16_0 vc16_1 10 + dirEE vc16_0 vc16_1 vc16_5 + factorE vc16_0 0 vc16_5 + factorE vc16_0 1 vc16_2 + thEE vc16_0 vc16_6 + locE vc16_0 (100, 102) (109, 109))) ∧ (false = true → false = true) ∧ (false = false → (((0 : Int) ≤ 2 ∧ (2 : Int) < 6) ∧ ((0 : Int) ≤ 2 ∧ (2 : Int) < 6) ∧ (false = false → (0 : Int) ≤ 4 ∧ (4 : Int) < 6) ∧ (false = false → (0 : Int) ≤ 4 ∧ (4 : Int) < 6) ∧ (false = false → (0 : Int) ≤ 5 ∧ (5 : Int) < 6) ∧ (false = false → (0 : Int) ≤ 5 ∧ (5 : Int) < 6) ∧ (false = false → 4 ≤ 1000000) ∧ (false = false → 4 ≤ 1000000)) ∧ (false = true → false = true) ∧ (false = false → 4 ≤ 1000000 ∧ 4 ≤ 1000000 ∧ vc16_3 ∧ vc16_3 ∧ vc16_3 ∧ vc16_3 ∧ vc16_3 ∧ ((I64 (opnEE (arrP vc16_0 vc16_1 10) vc16_2 105 5505024 10 + clrEE vc16_0 vc16_1 vc16_4)) ∧ ((-9223372036854775808) ≤ opnEE (arrP vc16_0 vc16_1 10) vc16_2 105 5505024 10 + clrEE vc16_0 vc16_1 vc16_4 + rcEE vc16_0 vc16_1 vc16_2 8 ∧ opnEE (arrP vc16_0 vc16_1 10) vc16_2 105 5505024 10 + clrEE vc16_0 vc16_1 vc16_4 + rcEE vc16_0 vc16_1 vc16_2 (8 : Int) ≤ 9223372036854775807) ∧ (I64 (opnEE (arrP vc16_0 vc16_1 10) vc16_2 105 5505024 10 + clrEE vc16_0 vc16_1 vc16_4 + rcEE vc16_0 vc16_1 vc16_2 8 + fltS vc16_0 vc16_1)) ∧ ((-9223372036854775808) ≤ opnEE (arrP vc16_0 vc16_1 10) vc16_2 105 5505024 10 + clrEE vc16_0 vc16_1 vc16_4 + rcEE vc16_0 vc16_1 vc16_2 8 + fltS vc16_0 vc16_1 + splEE vc16_0 1 2 ∧ opnEE (arrP vc16_0 vc16_1 10) vc16_2 105 5505024 10 + clrEE vc16_0 vc16_1 vc16_4 + rcEE vc16_0 vc16_1 vc16_2 8 + fltS vc16_0 vc16_1 + splEE vc16_0 1 (2 : Int) ≤ 9223372036854775807) ∧ (I64 (opnEE (arrP vc16_0 vc16_1 10) vc16_2 105 5505024 10 + clrEE vc16_0 vc16_1 vc16_4 + rcEE vc16_0 vc16_1 vc16_2 8 + fltS vc16_0 vc16_1 + splEE vc16_0 1 2 + cabS vc16_0)) ∧ (true = true → 9 ≤ 1000000) ∧ (true = true → 2 ≤ 1000000)) ∧ true = true))) := by
 intros
 kernel_rfl
theorem wp16  : wpF Tryz.prog G127 (na ()) Tryz.f16 cAwake () := by
 refine vc16.mpr ?_
 delta vc16_0 vc16_1 vc16_2 vc16_3 vc16_4 vc16_5 vc16_6
 delta I64
 repeat' first
  | refine And.intro ?_ ?_
  | exact fun h => Bool.noConfusion h
  | intro _
 all_goals first
  | rfl
  | exact of_decide_eq_true (by kernel_rfl)
theorem ok16 : Ok Tryz.prog 16 cAwake := ok_of_wp mixed g127 (by kernel_rfl) (by kernel_rfl) na fun xx => wp16 
abbrev G128 : Gam := (16, cAwake) :: G127
theorem g128 : GamOk Tryz.prog G128 := .cons ok16 g127
set_option maxHeartbeats 20000000
theorem short_len {c : Cab} (h : (bif false then true else !shortS c) = false) : c.1.length ≤ 7 ∧ c.2.1.length ≤ 8 := by
 have h : shortS c = true := by simpa using h
 unfold shortS at h
 simpa using h
theorem bnT {b c : Bool} : (bif b then true else c) = false ↔ b = false ∧ c = false := by cases b <;> simp
set_option maxHeartbeats 20000000
set_option pp.deepTerms true
set_option pp.maxSteps 1000000
theorem repL_pts {M : Nat → Prop} {w : World} : ∀ {xs : List (Int × Int)} {flat : List Value}, RepL (Rep M w sPt) xs flat → flat = xs.flatMap fun x => [Value.int .i64 x.1, Value.int .i64 x.2]
 | [], _, h => h
 | x :: xs, _, ⟨c1, c2, e, ⟨d1, d2, e2, g1, g2⟩, h2⟩ => by
  have g1 : d1 = [.int .i64 x.1] := g1
  have g2 : d2 = [.int .i64 x.2] := g2
  rw [e, e2, g1, g2, repL_pts h2]; rfl
theorem repL_mkP {M : Nat → Prop} {w : World} : ∀ (xs : List (Int × Int)), RepL (Rep M w sPt) xs (xs.flatMap fun x => [Value.int .i64 x.1, Value.int .i64 x.2])
 | [] => rfl
 | x :: xs => ⟨[.int .i64 x.1, .int .i64 x.2], xs.flatMap fun x => [Value.int .i64 x.1, Value.int .i64 x.2], rfl, ⟨[.int .i64 x.1], [.int .i64 x.2], rfl, rfl, rfl⟩, repL_mkP xs⟩
def cClone1 : Con := { args := [.val false (.list 166 sPt)], ress := [(false, .list 166 sPt)], owns := [true], pre := fun (l, _) => [0 < l.length, l.length ≤ 1000000], spec := fun (l, _) => (l, ()) }
theorem ok124 : Ok Tryz.prog 124 cClone1 := by
 refine ⟨⟨Tryz.f124, by kernel_rfl, by kernel_rfl, by kernel_rfl⟩, fun z hz => (by cases hz), fun F hF => (by cases hF), fun _ x M R w vs hM hg hpre hargs => ?_⟩
 obtain ⟨l, u⟩ := x
 obtain ⟨v1, vs1, rfl, ⟨cs, rfl, hr⟩, hn⟩ := hargs
 have hn : vs1 = [] := hn
 subst hn
 obtain ⟨v, flat, rfl, h1, h2⟩ := hr
 have hfl := repL_pts h1
 have hl : 0 < l.length ∧ l.length ≤ 1000000 := hpre
 have hfn : ∀ l : List (Int × Int), (l.flatMap fun x => [Value.int .i64 x.1, Value.int .i64 x.2]).length = l.length * 2 := fun l => by
  induction l with
  | nil => rfl
  | cons x r ih => simp only [List.flatMap_cons, List.length_append, ih, List.length_cons, List.length_nil]; omega
 have hone : ∀ u ∈ (l.flatMap fun x => [Value.int .i64 x.1, Value.int .i64 x.2]), u.oneCell' = true := fun u hu => by
  obtain ⟨x, _, hx⟩ := List.mem_flatMap.1 hu
  rcases List.mem_cons.1 hx with rfl | hx
  ·rfl
  rcases List.mem_cons.1 hx with rfl | hx
  ·rfl
  ·cases hx
 rcases h2 with ⟨_, h0⟩ | ⟨b, off, cap, rfl, hcap, hk, hm⟩
 ·have h0 : l.length = 0 := h0
  omega
 ·subst hfl
  refine (Tryz.clone124 b off l.length cap _ w (hfn l) (by show l.length ≤ 9223372036854775807; omega) (by omega) (fun j u hj => hk j u hj) hone).mono ?_
  rintro e w' ⟨v', rfl, ho, _, hb⟩
  refine ⟨M, [v'], rfl, .ofK hb, fun _ h => h, fun b h => .inl h, _, [], rfl, ⟨_, repL_mkP l, ho, fun g hg' hMg => ?_⟩, rfl⟩
  rcases ho.2 with ⟨rfl, _⟩ | ⟨g', cap, cur, rfl, hbg, _⟩
  ·cases hg'
  ·have : g' = g := Option.some.inj hg'
   have := hM g (.inl hMg)
   omega
abbrev G129 : Gam := (124, cClone1) :: G128
theorem g129 : GamOk Tryz.prog G129 := .cons ok124 g128
def cNeg1 : Con := { args := [aI], ress := [I], owns := [], pre := fun (n, _) => [I64 (0 - n)], spec := fun (n, _) => (0 - n, ()) }
theorem vc126 : ∀ (n : Int), wpF Tryz.prog G129 (na ()) Tryz.f126 cNeg1 (n, ()) = ((-9223372036854775808 : Int) ≤ 0 - n ∧ 0 - n ≤ 9223372036854775807 → ((-9223372036854775808 : Int) ≤ 0 - n ∧ 0 - n ≤ 9223372036854775807) ∧ 0 - n = 0 - n) := by
 intros
 kernel_rfl
theorem wp126 (n : Int) : wpF Tryz.prog G129 (na ()) Tryz.f126 cNeg1 (n, ()) := by
 refine (vc126 n).mpr ?_
 exact fun h => ⟨h, rfl⟩
theorem ok126 : Ok Tryz.prog 126 cNeg1 := ok_of_wp mixed g129 (by kernel_rfl) (by kernel_rfl) na fun xx => wp126 xx.1
abbrev G130 : Gam := (126, cNeg1) :: G129
theorem g130 : GamOk Tryz.prog G130 := .cons ok126 g129
def swapped {α : Type} (l : List α) (d : α) (k : Nat) (xs : List α) : Prop := xs.length = l.length ∧ ∀ p, p < l.length → xs.getD p d = if p < k ∨ l.length ≤ p + k then l.getD (l.length - 1 - p) d else l.getD p d
theorem swapped_zero {α : Type} (l : List α) (d : α) : swapped l d 0 l := ⟨rfl, fun p hp => by rw [if_neg (by omega)]⟩
theorem getD_set {α : Type} {l : List α} {d x : α} {i p : Nat} (hi : i < l.length) : (l.set i x).getD p d = if p = i then x else l.getD p d := by
 by_cases h : p = i
 ·subst h; simp [List.getD_eq_getElem?_getD, hi]
 ·rw [if_neg h, List.getD_eq_getElem?_getD, List.getElem?_set_ne (fun e => h e.symm), ← List.getD_eq_getElem?_getD]
theorem swapped_step {α : Type} {l xs : List α} {d : α} {k : Nat} (h : swapped l d k xs) (hk : 2 * k + 1 < l.length) : swapped l d (k + 1) ((xs.set k (xs.getD (l.length - 1 - k) d)).set (l.length - 1 - k) (xs.getD k d)) := by
 obtain ⟨h1, h2⟩ := h
 refine ⟨by simp [h1], fun p hp => ?_⟩
 rw [getD_set (by simp; omega), getD_set (by omega)]
 by_cases e1 : p = l.length - 1 - k
 ·subst e1
  rw [if_pos rfl, if_pos (by omega), h2 k (by omega), if_neg (by omega)]
  congr 1; omega
 ·rw [if_neg e1]
  by_cases e2 : p = k
  ·subst e2
   rw [if_pos rfl, if_pos (by omega), h2 _ (by omega), if_neg (by omega)]
  ·rw [if_neg e2, h2 p hp]
   by_cases e3 : p < k ∨ l.length ≤ p + k
   ·rw [if_pos e3, if_pos (by omega)]
   ·rw [if_neg e3, if_neg (by omega)]
theorem swapped_end {α : Type} {l xs : List α} {d : α} {k : Nat} (h : swapped l d k xs) (hk : l.length ≤ 2 * k + 1) : xs = l.reverse := by
 obtain ⟨h1, h2⟩ := h
 apply List.ext_getElem (by simp [h1])
 intro p hp hq
 have hp' : p < l.length := by omega
 have e := h2 p hp'
 rw [List.getD_eq_getElem?_getD, List.getElem?_eq_getElem hp] at e
 rw [List.getElem_reverse]
 have e : xs[p] = _ := e
 rw [e]
 by_cases h3 : p < k ∨ l.length ≤ p + k
 ·rw [if_pos h3, List.getD_eq_getElem?_getD, List.getElem?_eq_getElem (by omega)]; rfl
 ·rw [if_neg h3]
  have : p = l.length - 1 - p := by omega
  rw [List.getD_eq_getElem?_getD, List.getElem?_eq_getElem hp']
  show l[p] = _
  congr 1
def negJ (c : Cab) : List Int := c.2.1.map fun r => 0 - r
abbrev annRv1 (c : Cab) : Ann := { X := List (Int × Int) × Nat, σ := fun p => ⟨8, [(0, .one (.sl 4)), (2, .one (.int .i64 p.2)), (3, .one (.int .i64 (c.1.length - 1 - p.2)))], [(3, .box 37 zC), (4, .own 166 sPt p.1), (5, .own 3 sI (negJ c)), (6, .box 37 [.sl 4, .sl 5, .int .i64 c.2.2.2, .int .i64 c.2.2.1]), (7, .sus [(2, .one (.ptr 3 0)), (5, .one (.ptr 6 0))])]⟩, inv := fun p => p.2 ≤ c.1.length ∧ swapped c.1 (0, 0) p.2 p.1, mu := fun p => c.1.length - p.2 }
abbrev annRv2 (c : Cab) : Ann := { X := List Int × Nat, σ := fun p => ⟨9, [(0, .one (.sl 5)), (2, .one (.int .i64 p.2)), (3, .one (.int .i64 (c.2.1.length - 1 - p.2)))], [(3, .box 37 zC), (4, .own 166 sPt c.1.reverse), (5, .own 3 sI p.1), (6, .box 37 [.sl 4, .sl 5, .int .i64 c.2.2.2, .int .i64 c.2.2.1]), (8, .sus [(2, .one (.ptr 3 0)), (5, .one (.ptr 6 0))])]⟩, inv := fun p => p.2 ≤ c.2.1.length ∧ swapped (negJ c) 0 p.2 p.1, mu := fun p => c.2.1.length - p.2 }
def revP (c : Cab) : Cab := if cabS c = 0 then revC c else ([], [], 0, 0)
def cRev : Con := { args := [aC], ress := [(true, sCab 166), I], owns := [], pre := fun (c, _) => [c.1.length ≤ 1000000, c.2.1.length ≤ 1000000], spec := fun (c, _) => (revP c, cabS c, ()) }
def vc68_0 (c : Cab) (x : List (Int × Int) × Nat) := (List.getD x.1 (Int.toNat ((↑(List.length c.1) : Int) - (1 : Int) - (↑x.2 : Int))) ((0 : Int), (0 : Int)))
def vc68_1 (c : Cab) (x : List Int × Nat) := (List.set x.1 x.2 (List.getD x.1 (Int.toNat ((↑(List.length c.2.1) : Int) - (1 : Int) - (↑x.2 : Int))) (0 : Int)))
def vc68_2 (c : Cab) (x : List Int × Nat) := ((0 : Int) ≤ (↑x.2 : Int) ∧ (↑x.2 : Int) < (↑(List.length x.1) : Int))
theorem vc68 : ∀ (c : Cab), wpFG Tryz.prog G130 (na ()) (fun (g : FuncId) (id : Nat) => if g = (127 : FuncId) then some (annRv1 c) else if g = (128 : FuncId) then some (annRv2 c) else none) (Sx.look [(127, Tryz.f127), (128, Tryz.f128)]) Tryz.f68 cRev (c, ()) = (List.length c.1 ≤ 1000000 → List.length c.2.1 ≤ 1000000 → (List.length c.1 ≤ 1000000 ∧ List.length c.2.1 ≤ 1000000) ∧ ((cabS (c.1, c.2.1, c.2.2.1, c.2.2.2) != 0) = true → true = true ∧ ([], [], 0, 0) = revP c ∧ cabS (c.1, c.2.1, c.2.2.1, c.2.2.2) = cabS c) ∧ ((cabS (c.1, c.2.1, c.2.2.1, c.2.2.2) != 0) = false → (0 < List.length c.1 ∧ List.length c.1 ≤ 1000000 ∧ List.length c.2.1 ≤ 1000000 ∧ ∀ (x : Int), x ∈ c.2.1 → (-9223372036854775808 : Int) ≤ 0 - x ∧ 0 - x ≤ 9223372036854775807) ∧ ((-9223372036854775808) ≤ (↑(List.length c.1) : Int) - 1 ∧ (↑(List.length c.1) : Int) - (1 : Int) ≤ 9223372036854775807) ∧ ∃ (x : List (Int × Int) × Nat), (0 = (↑x.2 : Int) ∧ (↑(List.length c.1) : Int) - 1 = (↑(List.length c.1) : Int) - 1 - (↑x.2 : Int) ∧ Value.slice none 0 0 = Value.slice none 0 0 ∧ Value.slice none 0 0 = Value.slice none 0 0 ∧ (0 : Int) = 0 ∧ (0 : Int) = 0 ∧ c.1 = x.1 ∧ List.map (fun (x : Int) => Int.instSub.1 0 x) c.2.1 = negJ c ∧ c.2.2.2 = c.2.2.2 ∧ c.2.2.1 = c.2.2.1) ∧ (x.2 ≤ List.length c.1 ∧ swapped c.1 (0, 0) x.2 x.1) ∧ ∀ (x : List (Int × Int) × Nat), x.2 ≤ List.length c.1 ∧ swapped c.1 (0, 0) x.2 x.1 → (decide ((↑x.2 : Int) < (↑(List.length c.1) : Int) - 1 - (↑x.2 : Int)) = true → ((0 ≤ (↑(List.length c.1) : Int) - 1 - (↑x.2 : Int) ∧ (↑(List.length c.1) : Int) - 1 - (↑x.2 : Int) < (↑(List.length x.1) : Int)) ∧ (0 ≤ (↑(List.length c.1) : Int) - 1 - (↑x.2 : Int) ∧ (↑(List.length c.1) : Int) - 1 - (↑x.2 : Int) < (↑(List.length x.1) : Int)) ∧ (0 ≤ (↑x.2 : Int) ∧ (↑x.2 : Int) < (↑(List.length x.1) : Int)) ∧ (0 ≤ (↑x.2 : Int) ∧ (↑x.2 : Int) < (↑(List.length x.1) : Int)) ∧ (0 ≤ (↑x.2 : Int) ∧ (↑x.2 : Int) < (↑(List.length x.1) : Int)) ∧ (0 ≤ (↑x.2 : Int) ∧ (↑x.2 : Int) < (↑(List.length x.1) : Int)) ∧ (0 ≤ (↑(List.length c.1) : Int) - 1 - (↑x.2 : Int) ∧ (↑(List.length c.1) : Int) - 1 - (↑x.2 : Int) < (↑(List.length (List.set x.1 x.2 ((vc68_0 c x).1, (vc68_0 c x).2))) : Int)) ∧ 0 ≤ (↑(List.length c.1) : Int) - 1 - (↑x.2 : Int) ∧ (↑(List.length c.1) : Int) - 1 - (↑x.2 : Int) < (↑(List.length (List.set x.1 x.2 ((vc68_0 c x).1, (vc68_0 c x).2))) : Int)) ∧ (((-9223372036854775808) ≤ (↑x.2 : Int) + 1 ∧ (↑x.2 : Int) + (1 : Int) ≤ 9223372036854775807) ∧ (-9223372036854775808) ≤ (↑(List.length c.1) : Int) - 1 - (↑x.2 : Int) - 1 ∧ (↑(List.length c.1) : Int) - 1 - (↑x.2 : Int) - (1 : Int) ≤ 9223372036854775807) ∧ ∃ (y : List (Int × Int) × Nat), ((↑x.2 : Int) + 1 = (↑y.2 : Int) ∧ (↑(List.length c.1) : Int) - 1 - (↑x.2 : Int) - 1 = (↑(List.length c.1) : Int) - 1 - (↑y.2 : Int) ∧ Value.slice none 0 0 = Value.slice none 0 0 ∧ Value.slice none 0 0 = Value.slice none 0 0 ∧ (0 : Int) = 0 ∧ (0 : Int) = 0 ∧ List.set (List.set x.1 x.2 ((vc68_0 c x).1, (vc68_0 c x).2)) (Int.toNat ((↑(List.length c.1) : Int) - 1 - (↑x.2 : Int))) ((List.getD x.1 x.2 (0, 0)).1, (List.getD x.1 x.2 (0, 0)).2) = y.1 ∧ negJ c = negJ c ∧ c.2.2.2 = c.2.2.2 ∧ c.2.2.1 = c.2.2.1) ∧ (y.2 ≤ List.length c.1 ∧ swapped c.1 (0, 0) y.2 y.1) ∧ List.length c.1 - y.2 < List.length c.1 - x.2) ∧ (decide ((↑x.2 : Int) < (↑(List.length c.1) : Int) - 1 - (↑x.2 : Int)) = false → ((-9223372036854775808) ≤ (↑(List.length (negJ c)) : Int) - 1 ∧ (↑(List.length (negJ c)) : Int) - (1 : Int) ≤ 9223372036854775807) ∧ ∃ (x_1 : List Int × Nat), (0 = (↑x_1.2 : Int) ∧ (↑(List.length (negJ c)) : Int) - 1 = (↑(List.length c.2.1) : Int) - 1 - (↑x_1.2 : Int) ∧ Value.slice none 0 0 = Value.slice none 0 0 ∧ Value.slice none 0 0 = Value.slice none 0 0 ∧ (0 : Int) = 0 ∧ (0 : Int) = 0 ∧ x.1 = List.reverse c.1 ∧ negJ c = x_1.1 ∧ c.2.2.2 = c.2.2.2 ∧ c.2.2.1 = c.2.2.1) ∧ (x_1.2 ≤ List.length c.2.1 ∧ swapped (negJ c) 0 x_1.2 x_1.1) ∧ ∀ (x : List Int × Nat), x.2 ≤ List.length c.2.1 ∧ swapped (negJ c) 0 x.2 x.1 → (decide ((↑x.2 : Int) < (↑(List.length c.2.1) : Int) - 1 - (↑x.2 : Int)) = true → ((0 ≤ (↑(List.length c.2.1) : Int) - 1 - (↑x.2 : Int) ∧ (↑(List.length c.2.1) : Int) - 1 - (↑x.2 : Int) < (↑(List.length x.1) : Int)) ∧ (0 ≤ (↑(List.length c.2.1) : Int) - 1 - (↑x.2 : Int) ∧ (↑(List.length c.2.1) : Int) - 1 - (↑x.2 : Int) < (↑(List.length x.1) : Int)) ∧ (vc68_2 c x) ∧ (vc68_2 c x) ∧ (vc68_2 c x) ∧ (vc68_2 c x) ∧ (0 ≤ (↑(List.length c.2.1) : Int) - 1 - (↑x.2 : Int) ∧ (↑(List.length c.2.1) : Int) - 1 - (↑x.2 : Int) < (↑(List.length (vc68_1 c x)) : Int)) ∧ 0 ≤ (↑(List.length c.2.1) : Int) - 1 - (↑x.2 : Int) ∧ (↑(List.length c.2.1) : Int) - 1 - (↑x.2 : Int) < (↑(List.length (vc68_1 c x)) : Int)) ∧ (((-9223372036854775808) ≤ (↑x.2 : Int) + 1 ∧ (↑x.2 : Int) + (1 : Int) ≤ 9223372036854775807) ∧ (-9223372036854775808) ≤ (↑(List.length c.2.1) : Int) - 1 - (↑x.2 : Int) - 1 ∧ (↑(List.length c.2.1) : Int) - 1 - (↑x.2 : Int) - (1 : Int) ≤ 9223372036854775807) ∧ ∃ (y : List Int × Nat), ((↑x.2 : Int) + 1 = (↑y.2 : Int) ∧ (↑(List.length c.2.1) : Int) - 1 - (↑x.2 : Int) - 1 = (↑(List.length c.2.1) : Int) - 1 - (↑y.2 : Int) ∧ Value.slice none 0 0 = Value.slice none 0 0 ∧ Value.slice none 0 0 = Value.slice none 0 0 ∧ (0 : Int) = 0 ∧ (0 : Int) = 0 ∧ List.reverseAux c.1 [] = List.reverse c.1 ∧ List.set (vc68_1 c x) (Int.toNat ((↑(List.length c.2.1) : Int) - 1 - (↑x.2 : Int))) (List.getD x.1 x.2 0) = y.1 ∧ c.2.2.2 = c.2.2.2 ∧ c.2.2.1 = c.2.2.1) ∧ (y.2 ≤ List.length c.2.1 ∧ swapped (negJ c) 0 y.2 y.1) ∧ List.length c.2.1 - y.2 < List.length c.2.1 - x.2) ∧ (decide ((↑x.2 : Int) < (↑(List.length c.2.1) : Int) - 1 - (↑x.2 : Int)) = false → true = true ∧ (List.reverseAux c.1 [], x.1, c.2.2.2, c.2.2.1) = revP c ∧ 0 = cabS c)))) := by
 intros
 kernel_rfl
theorem wp68 (c : Cab) : wpFG Tryz.prog G130 (na ()) (fun g id => if g = 127 then some (annRv1 c) else if g = 128 then some (annRv2 c) else none) (Sx.look ([(127, Tryz.f127), (128, Tryz.f128)] : List (Nat × Func))) Tryz.f68 cRev (c, ()) := by
 refine (vc68 c).mpr ?_
 delta vc68_0 vc68_1 vc68_2
 intro h1 h2
 refine ⟨⟨h1, h2⟩, fun h => ?_, fun h => ?_⟩
 ·have h : ¬ cabS c = 0 := bne_iff_ne.1 h
  unfold revP; rw [if_neg h]; exact ⟨rfl, rfl, rfl⟩
 have hc : cabS c = 0 := bne_eq_false_iff_eq.1 h
 have hv : cabV c := cabS_V hc
 have hl := hv.2.1
 have hl2 := hv.2.2.2.1
 have hp := hv.1
 have hn : (negJ c).length = c.2.1.length := List.length_map _
 have hI : -9223372036854775808 ≤ (c.1.length : Int) - 1 ∧ (c.1.length : Int) - 1 ≤ 9223372036854775807 := by omega
 refine ⟨⟨hp, h1, h2, fun x hx => by have := hv.2.2.2.2.1 x hx; omega⟩, hI, (c.1, (0 : Nat)), ⟨rfl, by simp, rfl, rfl, rfl, rfl, rfl, rfl, rfl, rfl⟩, ⟨Nat.zero_le _, swapped_zero _ _⟩, ?_⟩
 rintro ⟨xs, k⟩ ⟨hk, hw⟩
 have hxl := hw.1
 dsimp only at hk hw hxl ⊢
 have ej : ((c.1.length : Int) - 1 - k).toNat = c.1.length - 1 - k := by omega
 refine ⟨fun q => ?_, fun q => ?_⟩
 ·have q : (k : Int) < c.1.length - 1 - k := of_decide_eq_true q
  have hst := swapped_step hw (by omega)
  rw [ej]
  have hsl : ∀ y, (xs.set k y).length = c.1.length := fun y => by rw [List.length_set]; exact hxl
  simp only [hsl, hxl]
  refine ⟨⟨by omega, by omega, by omega, by omega, by omega, by omega, by omega, by omega⟩, ⟨by omega, by omega⟩, ((xs.set k (xs.getD (c.1.length - 1 - k) (0, 0))).set (c.1.length - 1 - k) (xs.getD k (0, 0)), k + 1), ⟨by simp, by simp; omega, by trivial, by trivial, by trivial, by trivial, by first | rfl | trivial, by trivial, by trivial, by trivial⟩, ⟨by dsimp only; omega, hst⟩, by dsimp only; omega⟩
 have q : ¬ (k : Int) < c.1.length - 1 - k := of_decide_eq_false q
 have ex : xs = c.1.reverse := swapped_end hw (by omega)
 subst ex
 refine ⟨by omega, (negJ c, (0 : Nat)), ⟨rfl, by simp [hn], rfl, rfl, rfl, rfl, rfl, rfl, rfl, rfl⟩, ⟨Nat.zero_le _, swapped_zero _ _⟩, ?_⟩
 rintro ⟨xs, k⟩ ⟨hk, hw⟩
 have hxl := hw.1
 dsimp only at hk hw hxl ⊢
 rw [hn] at hxl
 have ej : ((c.2.1.length : Int) - 1 - k).toNat = c.2.1.length - 1 - k := by omega
 refine ⟨fun q => ?_, fun q => ?_⟩
 ·have q : (k : Int) < c.2.1.length - 1 - k := of_decide_eq_true q
  have hst := swapped_step hw (by omega)
  rw [hn] at hst
  rw [ej]
  have hsl : ∀ y, (xs.set k y).length = c.2.1.length := fun y => by rw [List.length_set]; exact hxl
  simp only [hsl, hxl]
  refine ⟨⟨by omega, by omega, by omega, by omega, by omega, by omega, by omega, by omega⟩, ⟨by omega, by omega⟩, ((xs.set k (xs.getD (c.2.1.length - 1 - k) 0)).set (c.2.1.length - 1 - k) (xs.getD k 0), k + 1), ⟨by simp, by simp; omega, by trivial, by trivial, by trivial, by trivial, by first | rfl | trivial, by trivial, by trivial, by trivial⟩, ⟨by dsimp only; omega, hst⟩, by dsimp only; omega⟩
 have q : ¬ (k : Int) < c.2.1.length - 1 - k := of_decide_eq_false q
 have ex : xs = (negJ c).reverse := swapped_end hw (by omega)
 subst ex
 unfold revP
 rw [if_pos hc, hc]
 exact ⟨rfl, rfl, rfl⟩
theorem ok68 : Ok Tryz.prog 68 cRev := ok_of_wpG mixed g130 (by kernel_rfl) (by kernel_rfl) (lib_ok (List.forall_mem_cons.2 ⟨by kernel_rfl, List.forall_mem_cons.2 ⟨by kernel_rfl, by simp⟩⟩)) (fun xx => na ()) (fun xx => fun g id => if g = 127 then some (annRv1 xx.1) else if g = 128 then some (annRv2 xx.1) else none) fun xx => wp68 xx.1
abbrev G131 : Gam := (68, cRev) :: G130
theorem g131 : GamOk Tryz.prog G131 := .cons ok68 g130
abbrev annRvR (c : Cab) : Nat → Option Ann := fun i =>
 if i = 0 then some { X := Nat, σ := fun k => ⟨8, [(1, .one (.ptr 2 0)), (2, .one (.ptr 3 0)), (3, .one (.ptr 4 0)), (4, .one (.int .i64 (c.1.length - 1 - k)))], [(0, .imm 102 sPt c.1), (1, .imm 3 sI c.2.1), (2, .box 26 [.sl 0, .sl 1, .int .i64 c.2.2.1, .int .i64 c.2.2.2]), (3, .box 26 zC), (4, .box 26 [.sl 5, .val (.slice none 0 0), .int .i64 c.2.2.2, .int .i64 c.2.2.1]), (5, .own 102 sPt (c.1.reverse.take k))]⟩, inv := fun k => k ≤ c.1.length, mu := fun k => c.1.length - k }
 else if i = 2 then some { X := Nat, σ := fun k => ⟨8, [(1, .one (.ptr 2 0)), (2, .one (.ptr 3 0)), (3, .one (.ptr 4 0)), (5, .one (.int .i64 (c.2.1.length - 1 - k)))], [(1, .imm 3 sI c.2.1), (0, .imm 102 sPt c.1), (2, .box 26 [.sl 0, .sl 1, .int .i64 c.2.2.1, .int .i64 c.2.2.2]), (3, .box 26 zC), (4, .box 26 [.sl 5, .sl 6, .int .i64 c.2.2.2, .int .i64 c.2.2.1]), (5, .own 102 sPt c.1.reverse), (6, .own 3 sI ((negJ c).reverse.take k))]⟩, inv := fun k => k ≤ c.2.1.length, mu := fun k => c.2.1.length - k }
 else none
def cRevR : Con := { args := [aCR], ress := [(true, sCab 102)], owns := [], pre := fun (c, _) => [cabS c = 0], spec := fun (c, _) => (revC c, ()) }
theorem vc71 : ∀ (c : Cab), wpF Tryz.prog G131 (annRvR c) Tryz.f71 cRevR (c, ()) = (cabS c = 0 → ((-9223372036854775808) ≤ (↑(List.length c.1) : Int) - 1 ∧ (↑(List.length c.1) : Int) - (1 : Int) ≤ 9223372036854775807) ∧ ∃ (x : Nat), ((↑(List.length c.1) : Int) - 1 = (↑(List.length c.1) : Int) - 1 - (↑x : Int) ∧ c.1 = c.1 ∧ c.2.1 = c.2.1 ∧ c.2.2.1 = c.2.2.1 ∧ c.2.2.2 = c.2.2.2 ∧ Value.slice none 0 0 = Value.slice none 0 0 ∧ Value.slice none 0 0 = Value.slice none 0 0 ∧ (0 : Int) = 0 ∧ (0 : Int) = 0 ∧ Value.slice none 0 0 = Value.slice none 0 0 ∧ c.2.2.2 = c.2.2.2 ∧ c.2.2.1 = c.2.2.1 ∧ List.length (List.take x (List.reverse c.1)) = 0) ∧ x ≤ List.length c.1 ∧ ∀ (x : Nat), x ≤ List.length c.1 → (decide (0 ≤ (↑(List.length c.1) : Int) - 1 - (↑x : Int)) = true → ((0 ≤ (↑(List.length c.1) : Int) - 1 - (↑x : Int) ∧ (↑(List.length c.1) : Int) - 1 - (↑x : Int) < (↑(List.length c.1) : Int)) ∧ (0 ≤ (↑(List.length c.1) : Int) - 1 - (↑x : Int) ∧ (↑(List.length c.1) : Int) - 1 - (↑x : Int) < (↑(List.length c.1) : Int)) ∧ (List.length (List.take x (List.reverse c.1)) + 1) * 16 ≤ 140737488355328) ∧ ((-9223372036854775808) ≤ (↑(List.length c.1) : Int) - 1 - (↑x : Int) - 1 ∧ (↑(List.length c.1) : Int) - 1 - (↑x : Int) - (1 : Int) ≤ 9223372036854775807) ∧ ∃ (y : Nat), ((↑(List.length c.1) : Int) - 1 - (↑x : Int) - 1 = (↑(List.length c.1) : Int) - 1 - (↑y : Int) ∧ c.1 = c.1 ∧ c.2.1 = c.2.1 ∧ c.2.2.1 = c.2.2.1 ∧ c.2.2.2 = c.2.2.2 ∧ Value.slice none 0 0 = Value.slice none 0 0 ∧ Value.slice none 0 0 = Value.slice none 0 0 ∧ (0 : Int) = 0 ∧ (0 : Int) = 0 ∧ Value.slice none 0 0 = Value.slice none 0 0 ∧ c.2.2.2 = c.2.2.2 ∧ c.2.2.1 = c.2.2.1 ∧ List.take x (List.reverse c.1) ++ [((List.getD c.1 (Int.toNat ((↑(List.length c.1) : Int) - 1 - (↑x : Int))) (0, 0)).1, (List.getD c.1 (Int.toNat ((↑(List.length c.1) : Int) - 1 - (↑x : Int))) (0, 0)).2)] = List.take y (List.reverse c.1)) ∧ y ≤ List.length c.1 ∧ List.length c.1 - y < List.length c.1 - x) ∧ (decide (0 ≤ (↑(List.length c.1) : Int) - 1 - (↑x : Int)) = false → ((-9223372036854775808) ≤ (↑(List.length c.2.1) : Int) - 1 ∧ (↑(List.length c.2.1) : Int) - (1 : Int) ≤ 9223372036854775807) ∧ ∃ (x_1 : Nat), ((↑(List.length c.2.1) : Int) - 1 = (↑(List.length c.2.1) : Int) - 1 - (↑x_1 : Int) ∧ c.2.1 = c.2.1 ∧ c.1 = c.1 ∧ c.2.2.1 = c.2.2.1 ∧ c.2.2.2 = c.2.2.2 ∧ Value.slice none 0 0 = Value.slice none 0 0 ∧ Value.slice none 0 0 = Value.slice none 0 0 ∧ (0 : Int) = 0 ∧ (0 : Int) = 0 ∧ c.2.2.2 = c.2.2.2 ∧ c.2.2.1 = c.2.2.1 ∧ List.take x (List.reverse c.1) = List.reverse c.1 ∧ List.length (List.take x_1 (List.reverse (negJ c))) = 0) ∧ x_1 ≤ List.length c.2.1 ∧ ∀ (x : Nat), x ≤ List.length c.2.1 → (decide (0 ≤ (↑(List.length c.2.1) : Int) - 1 - (↑x : Int)) = true → ((0 ≤ (↑(List.length c.2.1) : Int) - 1 - (↑x : Int) ∧ (↑(List.length c.2.1) : Int) - 1 - (↑x : Int) < (↑(List.length c.2.1) : Int)) ∧ (0 ≤ (↑(List.length c.2.1) : Int) - 1 - (↑x : Int) ∧ (↑(List.length c.2.1) : Int) - 1 - (↑x : Int) < (↑(List.length c.2.1) : Int)) ∧ ((-9223372036854775808 : Int) ≤ 0 - List.getD c.2.1 (Int.toNat ((↑(List.length c.2.1) : Int) - 1 - (↑x : Int))) 0 ∧ 0 - List.getD c.2.1 (Int.toNat ((↑(List.length c.2.1) : Int) - 1 - (↑x : Int))) (0 : Int) ≤ 9223372036854775807) ∧ (List.length (List.take x (List.reverse (negJ c))) + 1) * 8 ≤ 140737488355328) ∧ ((-9223372036854775808) ≤ (↑(List.length c.2.1) : Int) - 1 - (↑x : Int) - 1 ∧ (↑(List.length c.2.1) : Int) - 1 - (↑x : Int) - (1 : Int) ≤ 9223372036854775807) ∧ ∃ (y : Nat), ((↑(List.length c.2.1) : Int) - 1 - (↑x : Int) - 1 = (↑(List.length c.2.1) : Int) - 1 - (↑y : Int) ∧ c.2.1 = c.2.1 ∧ c.1 = c.1 ∧ c.2.2.1 = c.2.2.1 ∧ c.2.2.2 = c.2.2.2 ∧ Value.slice none 0 0 = Value.slice none 0 0 ∧ Value.slice none 0 0 = Value.slice none 0 0 ∧ (0 : Int) = 0 ∧ (0 : Int) = 0 ∧ c.2.2.2 = c.2.2.2 ∧ c.2.2.1 = c.2.2.1 ∧ List.reverseAux c.1 [] = List.reverse c.1 ∧ List.take x (List.reverse (negJ c)) ++ [0 - List.getD c.2.1 (Int.toNat ((↑(List.length c.2.1) : Int) - 1 - (↑x : Int))) 0] = List.take y (List.reverse (negJ c))) ∧ y ≤ List.length c.2.1 ∧ List.length c.2.1 - y < List.length c.2.1 - x) ∧ (decide (0 ≤ (↑(List.length c.2.1) : Int) - 1 - (↑x : Int)) = false → (List.reverseAux c.1 [], List.take x (List.reverse (negJ c)), c.2.2.2, c.2.2.1) = revC c))) := by
 intros
 kernel_rfl
theorem wp71 (c : Cab) : wpF Tryz.prog G131 (annRvR c) Tryz.f71 cRevR (c, ()) := by
 refine (vc71 c).mpr ?_
 intro hc
 have hv : cabV c := cabS_V hc
 have hl := hv.2.1
 have hl2 := hv.2.2.2.1
 have hn : (negJ c).length = c.2.1.length := List.length_map _
 refine ⟨by omega, (0 : Nat), ⟨by simp, rfl, rfl, rfl, rfl, rfl, rfl, rfl, rfl, rfl, rfl, rfl, rfl⟩, Nat.zero_le _, fun (k : Nat) hk => ⟨fun q => ?_, fun q => ?_⟩⟩
 ·have q : (0 : Int) ≤ c.1.length - 1 - k := of_decide_eq_true q
  have hlt : (c.1.reverse.take k).length ≤ 6 := by rw [List.length_take, List.length_reverse]; omega
  have ej : ((c.1.length : Int) - 1 - k).toNat = c.1.length - 1 - k := by omega
  have e := take_snoc (d := ((0, 0) : Int × Int)) (l := c.1.reverse) (k := k) (by rw [List.length_reverse]; omega)
  rw [getD_rev (i := k) (j := c.1.length - 1 - k) (by omega)] at e
  refine ⟨⟨by omega, by omega, by omega⟩, by omega, (k + 1 : Nat), ⟨by simp; omega, rfl, rfl, rfl, rfl, rfl, rfl, rfl, rfl, rfl, rfl, rfl, ?_⟩, by omega, by omega⟩
  rw [ej]
  exact e
 have q : ¬ (0 : Int) ≤ c.1.length - 1 - k := of_decide_eq_false q
 have hk : k = c.1.length := by omega
 refine ⟨by omega, (0 : Nat), ⟨by simp, rfl, rfl, rfl, rfl, rfl, rfl, rfl, rfl, rfl, rfl, List.take_of_length_le (by rw [List.length_reverse]; omega), rfl⟩, Nat.zero_le _, fun (m : Nat) hm => ⟨fun q => ?_, fun q => ?_⟩⟩
 ·have q : (0 : Int) ≤ c.2.1.length - 1 - m := of_decide_eq_true q
  have hlt : ((negJ c).reverse.take m).length ≤ 6 := by rw [List.length_take, List.length_reverse]; omega
  have ej : ((c.2.1.length : Int) - 1 - m).toNat = c.2.1.length - 1 - m := by omega
  have e := take_snoc (d := (0 : Int)) (l := (negJ c).reverse) (k := m) (by rw [List.length_reverse]; omega)
  rw [getD_rev (i := m) (j := c.2.1.length - 1 - m) (by omega)] at e
  unfold negJ at e
  rw [getD_neg] at e
  have hb := fac_bd hv (c.2.1.length - 1 - m)
  rw [ej]
  refine ⟨⟨by omega, by omega, by omega, by omega⟩, by omega, (m + 1 : Nat), ⟨by simp; omega, rfl, rfl, rfl, rfl, rfl, rfl, rfl, rfl, rfl, rfl, rfl, ?_⟩, by omega, by omega⟩
  unfold negJ
  exact e
 ·have q : ¬ (0 : Int) ≤ c.2.1.length - 1 - m := of_decide_eq_false q
  have hm : m = c.2.1.length := by omega
  have e : (negJ c).reverse.take m = (negJ c).reverse := List.take_of_length_le (by rw [List.length_reverse]; omega)
  rw [e]
  exact rfl
theorem ok71 : Ok Tryz.prog 71 cRevR := ok_of_wp mixed g131 (by kernel_rfl) (by kernel_rfl) (fun xx => annRvR xx.1) fun xx => wp71 xx.1
abbrev G132 : Gam := (71, cRevR) :: G131
theorem g132 : GamOk Tryz.prog G132 := .cons ok71 g131
set_option maxHeartbeats 20000000
set_option pp.deepTerms true
set_option pp.maxSteps 1000000
end Go.Proofs.YtcledkhhecdppaaGreatDoor
