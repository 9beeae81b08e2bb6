/- The law walked: part of the proof. -/
import Derived.Test.YtcledkhhecdppaaGreatDoorFC
set_option linter.unusedSimpArgs false
set_option linter.unusedVariables false
set_option maxRecDepth 20000
namespace Go.Proofs.YtcledkhhecdppaaGreatDoor
open Go.Sx
set_option maxHeartbeats 20000000
set_option pp.deepTerms true
set_option pp.maxSteps 1000000
abbrev s8 : Sch := .prod (.int .u8) (.int .u8)
def u8 (n : Int) : Prop := 0 ≤ n ∧ n ≤ 255
def cSplitsL : Con := { args := [aCR, aF, .val true s8], ress := [Bo], owns := [], pre := fun (_, _, n, _) => [u8 n.1, u8 n.2], spec := fun _ => (true, ()) }
abbrev sV (c : Cab) (n : Int × Int) : Int := n.1.tmod c.1.length
abbrev tV (c : Cab) (n : Int × Int) : Int := 1 + n.2.tmod ((c.1.getD (sV c n).toNat (0, 0)).2 - 1)
abbrev spV (c : Cab) (n : Int × Int) : Cab := splF c (sV c n) (tV c n)
abbrev resS (c : Cab) (f : Flt) (n : Int × Int) : List (Nat × Res) := [(0, .imm 102 sPt c.1), (1, .imm 3 sI c.2.1), (2, .box 26 [.sl 0, .sl 1, .int .i64 c.2.2.1, .int .i64 c.2.2.2]), (3, .box 28 [.int .i64 f.1, .int .i64 f.2.1, .int .i64 f.2.2.1, .int .i64 f.2.2.2]), (7, .imm 166 sPt (spV c n).1), (8, .imm 3 sI (spV c n).2.1), (9, .box 37 [.sl 7, .sl 8, .int .i64 (spV c n).2.2.1, .int .i64 (spV c n).2.2.2])]
abbrev slS (c : Cab) (n : Int × Int) : List (Nat × SV) := [(3, .one (.ptr 2 0)), (4, .one (.ptr 3 0)), (7, .one (.int .i64 (sV c n))), (8, .one (.int .i64 (tV c n))), (9, .one (.ptr 9 0))]
abbrev annSp (c : Cab) (f : Flt) (n : Int × Int) : Nat → Option Ann := fun i =>
 if i = 0 then some { X := Nat, σ := fun k => ⟨20, slS c n ++ [(11, .one (.ptr 14 0)), (15, .one (.int .i64 (sumS (c.1.take k)).2)), (141, .one (.int .i64 (sV c n))), (142, .one (.int .i64 k))], resS c f n ++ [(14, .box 24 [.int .i64 (lengthF c).1, .int .i64 (lengthF c).2])]⟩, inv := fun k => (k : Int) ≤ sV c n, mu := fun k => (sV c n).toNat - k }
 else if i = 2 then some { X := Nat, σ := fun k => ⟨20, slS c n ++ [(15, .one (.int .i64 (sumS (c.1.take (sV c n).toNat)).2)), (156, .one (.int .i64 ((lengthF c).2 + 1))), (157, .one (.int .i64 k))], resS c f n⟩, inv := fun k => (k : Int) ≤ (lengthF c).2 + 1, mu := fun k => ((lengthF c).2 + 1).toNat - k }
 else if i = 4 then some { X := Nat, σ := fun k => ⟨21, slS c n ++ [(204, .one (.sl 20)), (205, .one (.int .i64 2)), (206, .one (.int .i64 k))], resS c f n ++ [(20, .own 9 .str [sA, sB])]⟩, inv := fun k => k ≤ 2, mu := fun k => 2 - k }
 else if i = 6 then some { X := Nat × Nat, σ := fun p => ⟨21, slS c n ++ [(23, .one (.str ([sA, sB].getD p.1 ⟨⟨[]⟩⟩))), (204, .one (.sl 20)), (205, .one (.int .i64 2)), (206, .one (.int .i64 p.1)), (212, .one (.int .i64 c.1.length)), (213, .one (.int .i64 p.2))], resS c f n ++ [(20, .own 9 .str [sA, sB])]⟩, inv := fun p => p.1 < 2 ∧ p.2 ≤ c.1.length, mu := fun p => c.1.length - p.2, rel := some fun a b => a.1 = b.1 }
 else none
theorem getE8 {k : Nat} (h : k < 2) : ∃ d, ([sA, sB] : List ByteArray).getD k ⟨⟨[]⟩⟩ = strD d := by
 match k, h with
 | 0, _ => exact ⟨false, rfl⟩
 | 1, _ => exact ⟨true, rfl⟩
theorem leaf3 {a b : Int} {x y : Int × Int} (h1 : a = b) (h2 : x = y) : (bif (a != b) then true else !(x.1 == y.1 && (x.2 == y.2 && true))) = false := by
 subst h1; subst h2; simp
theorem leaf2 {a b : Int} {x y : Int × Int} (ha : a = 0) (hb : b = 0) (h2 : x = y) : (bif (bif a != 0 then true else b != 0) then true else !(x.1 == y.1 && (x.2 == y.2 && true))) = false := by
 subst ha; subst hb; subst h2; simp
theorem leafP {a b : Int} {p q : Prop} [Decidable p] [Decidable q] {x y : Int × Int} (ha : a = 0) (hb : b = 0) (h2 : p ∨ q → x = y) : (bif (bif a != 0 then true else b != 0) then true else bif (bif decide p then true else decide q) then !(x.1 == y.1 && (x.2 == y.2 && true)) else false) = false := by
 subst ha; subst hb
 by_cases h : p ∨ q
 ·rw [h2 h]; simp
 ·have hp : ¬ p := fun e => h (.inl e)
  have hq : ¬ q := fun e => h (.inr e)
  simp [hp, hq]
theorem bnE {x y : Int} {p : Prop} [Decidable p] : (bif x == y then decide p else false) = true ↔ x = y ∧ p := by
 by_cases h : x = y
 ·simp [h]
 ·simp [h]
theorem bnE' {x y : Int} {p : Prop} [Decidable p] : (bif x == y then decide p else false) = false ↔ ¬ (x = y ∧ p) := by
 rw [← bnE (x := x) (y := y) (p := p), Bool.not_eq_true]
theorem bnE3 {x y a b : Int} : (bif x == y then a == b else false) = false ↔ ¬ (x = y ∧ a = b) := by
 by_cases h : x = y
 ·simp [h]
 ·simp [h]
theorem bnO {p : Prop} [Decidable p] {b : Bool} : (bif decide p then true else b) = true ↔ p ∨ b = true := by
 by_cases h : p
 ·simp [h]
 ·simp [h]
def vc8_2 (c : Cab) (f : Flt) (n : Int × Int) := (c.1, c.2.1, c.2.2.1, c.2.2.2)
def vc8_6 (c : Cab) (f : Flt) (n : Int × Int) := (List.getD c.1 (Int.toNat (Int.tmod n.1 (↑(List.length c.1) : Int))) ((0 : Int), (0 : Int)))
def vc8_0 (c : Cab) (f : Flt) (n : Int × Int) := (splF (vc8_2 c f n) (Int.tmod n.1 (↑(List.length c.1) : Int)) ((1 : Int) + Int.tmod n.2 ((vc8_6 c f n).2 - (1 : Int))))
def vc8_1 (c : Cab) (f : Flt) (n : Int × Int) := ((spV c n).1, (spV c n).2.1, (spV c n).2.2.1, (spV c n).2.2.2)
def vc8_3 (c : Cab) (f : Flt) (n : Int × Int) := (List.length (spV c n).1 ≤ (1000000 : Nat) ∧ List.length (spV c n).2.1 ≤ (1000000 : Nat) ∧ List.length (spV c n).1 ≤ (1000000 : Nat) ∧ List.length (spV c n).2.1 ≤ (1000000 : Nat) ∧ List.length (spV c n).1 ≤ (1000000 : Nat) ∧ List.length (spV c n).2.1 ≤ (1000000 : Nat))
def vc8_4 (c : Cab) (f : Flt) (n : Int × Int) := (List.length c.1 ≤ (1000000 : Nat) ∧ List.length c.2.1 ≤ (1000000 : Nat) ∧ List.length c.1 ≤ (1000000 : Nat) ∧ List.length c.2.1 ≤ (1000000 : Nat))
def vc8_5 (c : Cab) (f : Flt) (n : Int × Int) := (f.1, f.2.1, f.2.2.1, f.2.2.2)
def vc8_7 (c : Cab) (f : Flt) (n : Int × Int) := ((vc8_0 c f n).1, (vc8_0 c f n).2.1, (vc8_0 c f n).2.2.1, (vc8_0 c f n).2.2.2)
def vc8_8 (c : Cab) (f : Flt) (n : Int × Int) := (bif bif bif bif cabS (vc8_2 c f n) != (0 : Int) then true else cabS (vc8_7 c f n) != (0 : Int) then true else !((lengthF (vc8_2 c f n)).1 == (lengthF (vc8_7 c f n)).1 && ((lengthF (vc8_2 c f n)).2 == (lengthF (vc8_7 c f n)).2 && true)) then true else decide ((lengthF (vc8_2 c f n)).2 < (1 : Int)) then true else decide ((400 : Int) < (lengthF (vc8_2 c f n)).2))
def vc8_9 (c : Cab) (f : Flt) (n : Int × Int) := (sumS (List.take (Int.toNat (sV c n)) c.1))
def vc8_10 (c : Cab) (f : Flt) (n : Int × Int) := (bif f.1 == sV c n then f.2.1 == tV c n else false)
def vc8_11 (c : Cab) (f : Flt) (n : Int × Int) := (f.1 + (1 : Int), f.2.1 - tV c n, f.2.2.1, f.2.2.2)
def vc8_12 (c : Cab) (f : Flt) (n : Int × Int) := ((0 : Int) ≤ Int.tmod n.1 (↑(List.length c.1) : Int) ∧ Int.tmod n.1 (↑(List.length c.1) : Int) < (↑(List.length c.1) : Int))
theorem vc8 : ∀ (c : Cab) (f : Flt) (n : Int × Int), wpF Tryz.prog G128 (annSp c f n) Tryz.f8 cSplitsL (c, f, n, ()) = (u8 n.1 → u8 n.2 → (((bif false then true else !shortS (vc8_2 c f n)) = false → List.length c.1 ≤ 1000000) ∧ ((bif false then true else !shortS (vc8_2 c f n)) = false → List.length c.2.1 ≤ 1000000)) ∧ ((bif bif bif false then true else !shortS (vc8_2 c f n) then true else fltS (vc8_2 c f n) (vc8_5 c f n) != 0 then true else decide (5 < (↑(List.length c.1) : Int))) = true → true = true) ∧ ((bif bif bif false then true else !shortS (vc8_2 c f n) then true else fltS (vc8_2 c f n) (vc8_5 c f n) != 0 then true else decide (5 < (↑(List.length c.1) : Int))) = false → ((I64 n.1) ∧ ((↑(List.length c.1) : Int) = 0 → False)) ∧ ((vc8_12 c f n) ∧ 0 ≤ Int.tmod n.1 (↑(List.length c.1) : Int) ∧ Int.tmod n.1 (↑(List.length c.1) : Int) < (↑(List.length c.1) : Int)) ∧ (decide ((vc8_6 c f n).2 < 2) = true → true = true) ∧ (decide ((vc8_6 c f n).2 < 2) = false → ((I64 n.2) ∧ (vc8_12 c f n) ∧ (vc8_12 c f n) ∧ ((-9223372036854775808) ≤ (vc8_6 c f n).2 - 1 ∧ (vc8_6 c f n).2 - (1 : Int) ≤ 9223372036854775807) ∧ ((vc8_6 c f n).2 - (1 : Int) = 0 → False) ∧ (-9223372036854775808 : Int) ≤ 1 + Int.tmod n.2 ((vc8_6 c f n).2 - 1) ∧ 1 + Int.tmod n.2 ((vc8_6 c f n).2 - 1) ≤ 9223372036854775807) ∧ (vc8_4 c f n) ∧ ((splEE (vc8_2 c f n) (Int.tmod n.1 (↑(List.length c.1) : Int)) (1 + Int.tmod n.2 ((vc8_6 c f n).2 - 1)) != 0) = true → (splEE (vc8_2 c f n) (Int.tmod n.1 (↑(List.length c.1) : Int)) (1 + Int.tmod n.2 ((vc8_6 c f n).2 - 1)) == 16) = true) ∧ ((splEE (vc8_2 c f n) (Int.tmod n.1 (↑(List.length c.1) : Int)) (1 + Int.tmod n.2 ((vc8_6 c f n).2 - 1)) != 0) = false → (List.length (vc8_0 c f n).1 ≤ 1000000 ∧ List.length (vc8_0 c f n).2.1 ≤ 1000000 ∧ List.length (vc8_0 c f n).1 ≤ 1000000 ∧ List.length (vc8_0 c f n).2.1 ≤ 1000000 ∧ ((cabS (vc8_7 c f n) != 0) = false → (-9223372036854775808) ≤ (↑(List.length c.1) : Int) + 1 ∧ (↑(List.length c.1) : Int) + (1 : Int) ≤ 9223372036854775807)) ∧ ((bif cabS (vc8_7 c f n) != 0 then true else (↑(List.length (vc8_0 c f n).1) : Int) != (↑(List.length c.1) : Int) + 1) = true → false = true) ∧ ((bif cabS (vc8_7 c f n) != 0 then true else (↑(List.length (vc8_0 c f n).1) : Int) != (↑(List.length c.1) : Int) + 1) = false → (vc8_4 c f n) ∧ (List.length (vc8_0 c f n).1 ≤ 1000000 ∧ List.length (vc8_0 c f n).2.1 ≤ 1000000 ∧ List.length (vc8_0 c f n).1 ≤ 1000000 ∧ List.length (vc8_0 c f n).2.1 ≤ 1000000 ∧ List.length (vc8_0 c f n).1 ≤ 1000000 ∧ List.length (vc8_0 c f n).2.1 ≤ 1000000) ∧ ((vc8_8 c f n) = true → false = true) ∧ ((vc8_8 c f n) = false → ∃ (x : Nat), (Int.tmod n.1 (↑(List.length c.1) : Int) = sV c n ∧ 1 + Int.tmod n.2 ((vc8_6 c f n).2 - 1) = tV c n ∧ 0 = (sumS (List.take x c.1)).2 ∧ Int.tmod n.1 (↑(List.length c.1) : Int) = sV c n ∧ 0 = (↑x : Int) ∧ c.1 = c.1 ∧ c.2.1 = c.2.1 ∧ c.2.2.1 = c.2.2.1 ∧ c.2.2.2 = c.2.2.2 ∧ f.1 = f.1 ∧ f.2.1 = f.2.1 ∧ f.2.2.1 = f.2.2.1 ∧ f.2.2.2 = f.2.2.2 ∧ (vc8_0 c f n).1 = (spV c n).1 ∧ (vc8_0 c f n).2.1 = (spV c n).2.1 ∧ (vc8_0 c f n).2.2.1 = (spV c n).2.2.1 ∧ (vc8_0 c f n).2.2.2 = (spV c n).2.2.2 ∧ (lengthF (vc8_2 c f n)).1 = (lengthF c).1 ∧ (lengthF (vc8_2 c f n)).2 = (lengthF c).2) ∧ Int.instLEInt.1 (↑x : Int) (sV c n) ∧ ∀ (x : Nat), Int.instLEInt.1 (↑x : Int) (sV c n) → (decide ((↑x : Int) < sV c n) = true → ((0 ≤ (↑x : Int) ∧ (↑x : Int) < (↑(List.length c.1) : Int)) ∧ (0 ≤ (↑x : Int) ∧ (↑x : Int) < (↑(List.length c.1) : Int)) ∧ I64 ((sumS (List.take x c.1)).2 + (List.getD c.1 x (0, 0)).2)) ∧ ((-9223372036854775808) ≤ (↑x : Int) + 1 ∧ (↑x : Int) + (1 : Int) ≤ 9223372036854775807) ∧ ∃ (y : Nat), (sV c n = sV c n ∧ tV c n = tV c n ∧ (sumS (List.take x c.1)).2 + (List.getD c.1 x (0, 0)).2 = (sumS (List.take y c.1)).2 ∧ sV c n = sV c n ∧ (↑x : Int) + 1 = (↑y : Int) ∧ c.1 = c.1 ∧ c.2.1 = c.2.1 ∧ c.2.2.1 = c.2.2.1 ∧ c.2.2.2 = c.2.2.2 ∧ f.1 = f.1 ∧ f.2.1 = f.2.1 ∧ f.2.2.1 = f.2.2.1 ∧ f.2.2.2 = f.2.2.2 ∧ (spV c n).1 = (spV c n).1 ∧ (spV c n).2.1 = (spV c n).2.1 ∧ (spV c n).2.2.1 = (spV c n).2.2.1 ∧ (spV c n).2.2.2 = (spV c n).2.2.2 ∧ (lengthF c).1 = (lengthF c).1 ∧ (lengthF c).2 = (lengthF c).2) ∧ Int.instLEInt.1 (↑y : Int) (sV c n) ∧ Int.toNat (sV c n) - y < Int.toNat (sV c n) - x) ∧ (decide ((↑x : Int) < sV c n) = false → ((-9223372036854775808) ≤ (lengthF c).2 + 1 ∧ (lengthF c).2 + (1 : Int) ≤ 9223372036854775807) ∧ ∃ (x_1 : Nat), (sV c n = sV c n ∧ tV c n = tV c n ∧ (sumS (List.take x c.1)).2 = (vc8_9 c f n).2 ∧ (lengthF c).2 + 1 = (lengthF c).2 + 1 ∧ 0 = (↑x_1 : Int) ∧ c.1 = c.1 ∧ c.2.1 = c.2.1 ∧ c.2.2.1 = c.2.2.1 ∧ c.2.2.2 = c.2.2.2 ∧ f.1 = f.1 ∧ f.2.1 = f.2.1 ∧ f.2.2.1 = f.2.2.1 ∧ f.2.2.2 = f.2.2.2 ∧ (spV c n).1 = (spV c n).1 ∧ (spV c n).2.1 = (spV c n).2.1 ∧ (spV c n).2.2.1 = (spV c n).2.2.1 ∧ (spV c n).2.2.2 = (spV c n).2.2.2) ∧ Int.instLEInt.1 (↑x_1 : Int) ((lengthF c).2 + 1) ∧ ∀ (x : Nat), Int.instLEInt.1 (↑x : Int) ((lengthF c).2 + 1) → (decide ((↑x : Int) < (lengthF c).2 + 1) = true → (vc8_4 c f n) ∧ (vc8_3 c f n) ∧ (((bif placeE (vc8_2 c f n) (↑x : Int) != 0 then true else placeE (vc8_1 c f n) (↑x : Int) != 0) = false ∧ decide ((↑x : Int) ≤ (vc8_9 c f n).2) = false → 0 ≤ sV c n ∧ sV c n < (↑(List.length c.1) : Int)) ∧ ((bif placeE (vc8_2 c f n) (↑x : Int) != 0 then true else placeE (vc8_1 c f n) (↑x : Int) != 0) = false ∧ decide ((↑x : Int) ≤ (vc8_9 c f n).2) = false → 0 ≤ sV c n ∧ sV c n < (↑(List.length c.1) : Int)) ∧ ((bif placeE (vc8_2 c f n) (↑x : Int) != 0 then true else placeE (vc8_1 c f n) (↑x : Int) != 0) = false ∧ decide ((↑x : Int) ≤ (vc8_9 c f n).2) = false → I64 ((vc8_9 c f n).2 + (List.getD c.1 (Int.toNat (sV c n)) (0, 0)).2))) ∧ ((bif bif placeE (vc8_2 c f n) (↑x : Int) != 0 then true else placeE (vc8_1 c f n) (↑x : Int) != 0 then true else bif bif decide ((↑x : Int) ≤ (vc8_9 c f n).2) then true else decide ((vc8_9 c f n).2 + (List.getD c.1 (Int.toNat (sV c n)) (0, 0)).2 ≤ (↑x : Int)) then !((placeF (vc8_2 c f n) (↑x : Int)).1 == (placeF (vc8_1 c f n) (↑x : Int)).1 && ((placeF (vc8_2 c f n) (↑x : Int)).2 == (placeF (vc8_1 c f n) (↑x : Int)).2 && true)) else false) = true → false = true) ∧ ((bif bif placeE (vc8_2 c f n) (↑x : Int) != 0 then true else placeE (vc8_1 c f n) (↑x : Int) != 0 then true else bif bif decide ((↑x : Int) ≤ (vc8_9 c f n).2) then true else decide ((vc8_9 c f n).2 + (List.getD c.1 (Int.toNat (sV c n)) (0, 0)).2 ≤ (↑x : Int)) then !((placeF (vc8_2 c f n) (↑x : Int)).1 == (placeF (vc8_1 c f n) (↑x : Int)).1 && ((placeF (vc8_2 c f n) (↑x : Int)).2 == (placeF (vc8_1 c f n) (↑x : Int)).2 && true)) else false) = false → ((-9223372036854775808) ≤ (↑x : Int) + 1 ∧ (↑x : Int) + (1 : Int) ≤ 9223372036854775807) ∧ ∃ (y : Nat), (sV c n = sV c n ∧ tV c n = tV c n ∧ (vc8_9 c f n).2 = (vc8_9 c f n).2 ∧ (lengthF c).2 + 1 = (lengthF c).2 + 1 ∧ (↑x : Int) + 1 = (↑y : Int) ∧ c.1 = c.1 ∧ c.2.1 = c.2.1 ∧ c.2.2.1 = c.2.2.1 ∧ c.2.2.2 = c.2.2.2 ∧ f.1 = f.1 ∧ f.2.1 = f.2.1 ∧ f.2.2.1 = f.2.2.1 ∧ f.2.2.2 = f.2.2.2 ∧ (spV c n).1 = (spV c n).1 ∧ (spV c n).2.1 = (spV c n).2.1 ∧ (spV c n).2.2.1 = (spV c n).2.2.1 ∧ (spV c n).2.2.2 = (spV c n).2.2.2) ∧ Int.instLEInt.1 (↑y : Int) ((lengthF c).2 + 1) ∧ Int.toNat ((lengthF c).2 + 1) - y < Int.toNat ((lengthF c).2 + 1) - x)) ∧ (decide ((↑x : Int) < (lengthF c).2 + 1) = false → ∃ (x : Nat), (sV c n = sV c n ∧ tV c n = tV c n ∧ (2 : Int) = 2 ∧ 0 = (↑x : Int) ∧ c.1 = c.1 ∧ c.2.1 = c.2.1 ∧ c.2.2.1 = c.2.2.1 ∧ c.2.2.2 = c.2.2.2 ∧ f.1 = f.1 ∧ f.2.1 = f.2.1 ∧ f.2.2.1 = f.2.2.1 ∧ f.2.2.2 = f.2.2.2 ∧ (spV c n).1 = (spV c n).1 ∧ (spV c n).2.1 = (spV c n).2.1 ∧ (spV c n).2.2.1 = (spV c n).2.2.1 ∧ (spV c n).2.2.2 = (spV c n).2.2.2 ∧ [ByteArray.mk (Array.mk [(65 : UInt8)]), ByteArray.mk (Array.mk [(66 : UInt8)])] = [sA, sB]) ∧ x ≤ 2 ∧ ∀ (x : Nat), x ≤ 2 → (decide ((↑x : Int) < 2) = true → ((0 ≤ (↑x : Int) ∧ (↑x : Int) < 2) ∧ 0 ≤ (↑x : Int) ∧ (↑x : Int) < 2) ∧ ∃ (x0 : Nat × Nat), (sV c n = sV c n ∧ tV c n = tV c n ∧ List.getD [sA, sB] x (ByteArray.mk (Array.mk [])) = List.getD [sA, sB] x0.1 (ByteArray.mk (Array.mk [])) ∧ (2 : Int) = 2 ∧ (↑x : Int) = (↑x0.1 : Int) ∧ (↑(List.length c.1) : Int) = (↑(List.length c.1) : Int) ∧ 0 = (↑x0.2 : Int) ∧ c.1 = c.1 ∧ c.2.1 = c.2.1 ∧ c.2.2.1 = c.2.2.1 ∧ c.2.2.2 = c.2.2.2 ∧ f.1 = f.1 ∧ f.2.1 = f.2.1 ∧ f.2.2.1 = f.2.2.1 ∧ f.2.2.2 = f.2.2.2 ∧ (spV c n).1 = (spV c n).1 ∧ (spV c n).2.1 = (spV c n).2.1 ∧ (spV c n).2.2.1 = (spV c n).2.2.1 ∧ (spV c n).2.2.2 = (spV c n).2.2.2 ∧ [sA, sB] = [sA, sB]) ∧ ((x0.1 < 2 ∧ x0.2 ≤ List.length c.1) ∧ x0.1 = x0.1) ∧ ∀ (x_2 : Nat × Nat), (x_2.1 < 2 ∧ x_2.2 ≤ List.length c.1) ∧ x0.1 = x_2.1 → (decide ((↑x_2.2 : Int) < (↑(List.length c.1) : Int)) = true → (decide (sV c n < (↑x_2.2 : Int)) = true → ((-9223372036854775808) ≤ (↑x_2.2 : Int) + 1 ∧ (↑x_2.2 : Int) + (1 : Int) ≤ 9223372036854775807) ∧ (vc8_4 c f n) ∧ (vc8_3 c f n) ∧ ((bif bif factorE (vc8_2 c f n) (↑x_2.2 : Int) (List.getD [sA, sB] x_2.1 (ByteArray.mk (Array.mk []))) != 0 then true else factorE (vc8_1 c f n) ((↑x_2.2 : Int) + 1) (List.getD [sA, sB] x_2.1 (ByteArray.mk (Array.mk []))) != 0 then true else !((factorF (vc8_2 c f n) (↑x_2.2 : Int) (List.getD [sA, sB] x_2.1 (ByteArray.mk (Array.mk [])))).1 == (factorF (vc8_1 c f n) ((↑x_2.2 : Int) + 1) (List.getD [sA, sB] x_2.1 (ByteArray.mk (Array.mk [])))).1 && ((factorF (vc8_2 c f n) (↑x_2.2 : Int) (List.getD [sA, sB] x_2.1 (ByteArray.mk (Array.mk [])))).2 == (factorF (vc8_1 c f n) ((↑x_2.2 : Int) + 1) (List.getD [sA, sB] x_2.1 (ByteArray.mk (Array.mk [])))).2 && true))) = true → false = true) ∧ ((bif bif factorE (vc8_2 c f n) (↑x_2.2 : Int) (List.getD [sA, sB] x_2.1 (ByteArray.mk (Array.mk []))) != 0 then true else factorE (vc8_1 c f n) ((↑x_2.2 : Int) + 1) (List.getD [sA, sB] x_2.1 (ByteArray.mk (Array.mk []))) != 0 then true else !((factorF (vc8_2 c f n) (↑x_2.2 : Int) (List.getD [sA, sB] x_2.1 (ByteArray.mk (Array.mk [])))).1 == (factorF (vc8_1 c f n) ((↑x_2.2 : Int) + 1) (List.getD [sA, sB] x_2.1 (ByteArray.mk (Array.mk [])))).1 && ((factorF (vc8_2 c f n) (↑x_2.2 : Int) (List.getD [sA, sB] x_2.1 (ByteArray.mk (Array.mk [])))).2 == (factorF (vc8_1 c f n) ((↑x_2.2 : Int) + 1) (List.getD [sA, sB] x_2.1 (ByteArray.mk (Array.mk [])))).2 && true))) = false → ((-9223372036854775808) ≤ (↑x_2.2 : Int) + 1 ∧ (↑x_2.2 : Int) + (1 : Int) ≤ 9223372036854775807) ∧ ∃ (y : Nat × Nat), (sV c n = sV c n ∧ tV c n = tV c n ∧ List.getD [sA, sB] x_2.1 (ByteArray.mk (Array.mk [])) = List.getD [sA, sB] y.1 (ByteArray.mk (Array.mk [])) ∧ (2 : Int) = 2 ∧ (↑x_2.1 : Int) = (↑y.1 : Int) ∧ (↑(List.length c.1) : Int) = (↑(List.length c.1) : Int) ∧ (↑x_2.2 : Int) + 1 = (↑y.2 : Int) ∧ c.1 = c.1 ∧ c.2.1 = c.2.1 ∧ c.2.2.1 = c.2.2.1 ∧ c.2.2.2 = c.2.2.2 ∧ f.1 = f.1 ∧ f.2.1 = f.2.1 ∧ f.2.2.1 = f.2.2.1 ∧ f.2.2.2 = f.2.2.2 ∧ (spV c n).1 = (spV c n).1 ∧ (spV c n).2.1 = (spV c n).2.1 ∧ (spV c n).2.2.1 = (spV c n).2.2.1 ∧ (spV c n).2.2.2 = (spV c n).2.2.2 ∧ [sA, sB] = [sA, sB]) ∧ ((y.1 < 2 ∧ y.2 ≤ List.length c.1) ∧ x0.1 = y.1) ∧ List.length c.1 - y.2 < List.length c.1 - x_2.2)) ∧ (decide (sV c n < (↑x_2.2 : Int)) = false → (vc8_4 c f n) ∧ (vc8_3 c f n) ∧ ((bif bif factorE (vc8_2 c f n) (↑x_2.2 : Int) (List.getD [sA, sB] x_2.1 (ByteArray.mk (Array.mk []))) != 0 then true else factorE (vc8_1 c f n) (↑x_2.2 : Int) (List.getD [sA, sB] x_2.1 (ByteArray.mk (Array.mk []))) != 0 then true else !((factorF (vc8_2 c f n) (↑x_2.2 : Int) (List.getD [sA, sB] x_2.1 (ByteArray.mk (Array.mk [])))).1 == (factorF (vc8_1 c f n) (↑x_2.2 : Int) (List.getD [sA, sB] x_2.1 (ByteArray.mk (Array.mk [])))).1 && ((factorF (vc8_2 c f n) (↑x_2.2 : Int) (List.getD [sA, sB] x_2.1 (ByteArray.mk (Array.mk [])))).2 == (factorF (vc8_1 c f n) (↑x_2.2 : Int) (List.getD [sA, sB] x_2.1 (ByteArray.mk (Array.mk [])))).2 && true))) = true → false = true) ∧ ((bif bif factorE (vc8_2 c f n) (↑x_2.2 : Int) (List.getD [sA, sB] x_2.1 (ByteArray.mk (Array.mk []))) != 0 then true else factorE (vc8_1 c f n) (↑x_2.2 : Int) (List.getD [sA, sB] x_2.1 (ByteArray.mk (Array.mk []))) != 0 then true else !((factorF (vc8_2 c f n) (↑x_2.2 : Int) (List.getD [sA, sB] x_2.1 (ByteArray.mk (Array.mk [])))).1 == (factorF (vc8_1 c f n) (↑x_2.2 : Int) (List.getD [sA, sB] x_2.1 (ByteArray.mk (Array.mk [])))).1 && ((factorF (vc8_2 c f n) (↑x_2.2 : Int) (List.getD [sA, sB] x_2.1 (ByteArray.mk (Array.mk [])))).2 == (factorF (vc8_1 c f n) (↑x_2.2 : Int) (List.getD [sA, sB] x_2.1 (ByteArray.mk (Array.mk [])))).2 && true))) = false → ((-9223372036854775808) ≤ (↑x_2.2 : Int) + 1 ∧ (↑x_2.2 : Int) + (1 : Int) ≤ 9223372036854775807) ∧ ∃ (y : Nat × Nat), (sV c n = sV c n ∧ tV c n = tV c n ∧ List.getD [sA, sB] x_2.1 (ByteArray.mk (Array.mk [])) = List.getD [sA, sB] y.1 (ByteArray.mk (Array.mk [])) ∧ (2 : Int) = 2 ∧ (↑x_2.1 : Int) = (↑y.1 : Int) ∧ (↑(List.length c.1) : Int) = (↑(List.length c.1) : Int) ∧ (↑x_2.2 : Int) + 1 = (↑y.2 : Int) ∧ c.1 = c.1 ∧ c.2.1 = c.2.1 ∧ c.2.2.1 = c.2.2.1 ∧ c.2.2.2 = c.2.2.2 ∧ f.1 = f.1 ∧ f.2.1 = f.2.1 ∧ f.2.2.1 = f.2.2.1 ∧ f.2.2.2 = f.2.2.2 ∧ (spV c n).1 = (spV c n).1 ∧ (spV c n).2.1 = (spV c n).2.1 ∧ (spV c n).2.2.1 = (spV c n).2.2.1 ∧ (spV c n).2.2.2 = (spV c n).2.2.2 ∧ [sA, sB] = [sA, sB]) ∧ ((y.1 < 2 ∧ y.2 ≤ List.length c.1) ∧ x0.1 = y.1) ∧ List.length c.1 - y.2 < List.length c.1 - x_2.2))) ∧ (decide ((↑x_2.2 : Int) < (↑(List.length c.1) : Int)) = false → ((bif decide (sV c n < f.1) then true else bif f.1 == sV c n then decide (tV c n < f.2.1) else false) = true → ((-9223372036854775808) ≤ f.1 + 1 ∧ f.1 + (1 : Int) ≤ 9223372036854775807) ∧ ((bif f.1 == sV c n then decide (tV c n < f.2.1) else false) = true → (I64 (f.2.1 - tV c n)) ∧ ((vc8_10 c f n) = true → ((-9223372036854775808) ≤ (↑x_2.1 : Int) + 1 ∧ (↑x_2.1 : Int) + (1 : Int) ≤ 9223372036854775807) ∧ ∃ (y : Nat), (sV c n = sV c n ∧ tV c n = tV c n ∧ (2 : Int) = 2 ∧ (↑x_2.1 : Int) + 1 = (↑y : Int) ∧ c.1 = c.1 ∧ c.2.1 = c.2.1 ∧ c.2.2.1 = c.2.2.1 ∧ c.2.2.2 = c.2.2.2 ∧ f.1 = f.1 ∧ f.2.1 = f.2.1 ∧ f.2.2.1 = f.2.2.1 ∧ f.2.2.2 = f.2.2.2 ∧ (spV c n).1 = (spV c n).1 ∧ (spV c n).2.1 = (spV c n).2.1 ∧ (spV c n).2.2.1 = (spV c n).2.2.1 ∧ (spV c n).2.2.2 = (spV c n).2.2.2 ∧ [sA, sB] = [sA, sB]) ∧ y ≤ 2 ∧ 2 - y < 2 - x) ∧ ((vc8_10 c f n) = false → (vc8_4 c f n) ∧ (vc8_3 c f n) ∧ ((bif dirEE (vc8_2 c f n) (vc8_5 c f n) (List.getD [sA, sB] x_2.1 (ByteArray.mk (Array.mk []))) != dirEE (vc8_1 c f n) (vc8_11 c f n) (List.getD [sA, sB] x_2.1 (ByteArray.mk (Array.mk []))) then true else !((dirF (vc8_2 c f n) (vc8_5 c f n) (List.getD [sA, sB] x_2.1 (ByteArray.mk (Array.mk [])))).1 == (dirF (vc8_1 c f n) (vc8_11 c f n) (List.getD [sA, sB] x_2.1 (ByteArray.mk (Array.mk [])))).1 && ((dirF (vc8_2 c f n) (vc8_5 c f n) (List.getD [sA, sB] x_2.1 (ByteArray.mk (Array.mk [])))).2 == (dirF (vc8_1 c f n) (vc8_11 c f n) (List.getD [sA, sB] x_2.1 (ByteArray.mk (Array.mk [])))).2 && true))) = true → false = true) ∧ ((bif dirEE (vc8_2 c f n) (vc8_5 c f n) (List.getD [sA, sB] x_2.1 (ByteArray.mk (Array.mk []))) != dirEE (vc8_1 c f n) (vc8_11 c f n) (List.getD [sA, sB] x_2.1 (ByteArray.mk (Array.mk []))) then true else !((dirF (vc8_2 c f n) (vc8_5 c f n) (List.getD [sA, sB] x_2.1 (ByteArray.mk (Array.mk [])))).1 == (dirF (vc8_1 c f n) (vc8_11 c f n) (List.getD [sA, sB] x_2.1 (ByteArray.mk (Array.mk [])))).1 && ((dirF (vc8_2 c f n) (vc8_5 c f n) (List.getD [sA, sB] x_2.1 (ByteArray.mk (Array.mk [])))).2 == (dirF (vc8_1 c f n) (vc8_11 c f n) (List.getD [sA, sB] x_2.1 (ByteArray.mk (Array.mk [])))).2 && true))) = false → ((-9223372036854775808) ≤ (↑x_2.1 : Int) + 1 ∧ (↑x_2.1 : Int) + (1 : Int) ≤ 9223372036854775807) ∧ ∃ (y : Nat), (sV c n = sV c n ∧ tV c n = tV c n ∧ (2 : Int) = 2 ∧ (↑x_2.1 : Int) + 1 = (↑y : Int) ∧ c.1 = c.1 ∧ c.2.1 = c.2.1 ∧ c.2.2.1 = c.2.2.1 ∧ c.2.2.2 = c.2.2.2 ∧ f.1 = f.1 ∧ f.2.1 = f.2.1 ∧ f.2.2.1 = f.2.2.1 ∧ f.2.2.2 = f.2.2.2 ∧ (spV c n).1 = (spV c n).1 ∧ (spV c n).2.1 = (spV c n).2.1 ∧ (spV c n).2.2.1 = (spV c n).2.2.1 ∧ (spV c n).2.2.2 = (spV c n).2.2.2 ∧ [sA, sB] = [sA, sB]) ∧ y ≤ 2 ∧ 2 - y < 2 - x))) ∧ ((bif f.1 == sV c n then decide (tV c n < f.2.1) else false) = false → ((vc8_10 c f n) = true → ((-9223372036854775808) ≤ (↑x_2.1 : Int) + 1 ∧ (↑x_2.1 : Int) + (1 : Int) ≤ 9223372036854775807) ∧ ∃ (y : Nat), (sV c n = sV c n ∧ tV c n = tV c n ∧ (2 : Int) = 2 ∧ (↑x_2.1 : Int) + 1 = (↑y : Int) ∧ c.1 = c.1 ∧ c.2.1 = c.2.1 ∧ c.2.2.1 = c.2.2.1 ∧ c.2.2.2 = c.2.2.2 ∧ f.1 = f.1 ∧ f.2.1 = f.2.1 ∧ f.2.2.1 = f.2.2.1 ∧ f.2.2.2 = f.2.2.2 ∧ (spV c n).1 = (spV c n).1 ∧ (spV c n).2.1 = (spV c n).2.1 ∧ (spV c n).2.2.1 = (spV c n).2.2.1 ∧ (spV c n).2.2.2 = (spV c n).2.2.2 ∧ [sA, sB] = [sA, sB]) ∧ y ≤ 2 ∧ 2 - y < 2 - x) ∧ ((vc8_10 c f n) = false → (vc8_4 c f n) ∧ (vc8_3 c f n) ∧ ((bif dirEE (vc8_2 c f n) (vc8_5 c f n) (List.getD [sA, sB] x_2.1 (ByteArray.mk (Array.mk []))) != dirEE (vc8_1 c f n) (f.1 + 1, f.2.1, f.2.2.1, f.2.2.2) (List.getD [sA, sB] x_2.1 (ByteArray.mk (Array.mk []))) then true else !((dirF (vc8_2 c f n) (vc8_5 c f n) (List.getD [sA, sB] x_2.1 (ByteArray.mk (Array.mk [])))).1 == (dirF (vc8_1 c f n) (f.1 + 1, f.2.1, f.2.2.1, f.2.2.2) (List.getD [sA, sB] x_2.1 (ByteArray.mk (Array.mk [])))).1 && ((dirF (vc8_2 c f n) (vc8_5 c f n) (List.getD [sA, sB] x_2.1 (ByteArray.mk (Array.mk [])))).2 == (dirF (vc8_1 c f n) (f.1 + 1, f.2.1, f.2.2.1, f.2.2.2) (List.getD [sA, sB] x_2.1 (ByteArray.mk (Array.mk [])))).2 && true))) = true → false = true) ∧ ((bif dirEE (vc8_2 c f n) (vc8_5 c f n) (List.getD [sA, sB] x_2.1 (ByteArray.mk (Array.mk []))) != dirEE (vc8_1 c f n) (f.1 + 1, f.2.1, f.2.2.1, f.2.2.2) (List.getD [sA, sB] x_2.1 (ByteArray.mk (Array.mk []))) then true else !((dirF (vc8_2 c f n) (vc8_5 c f n) (List.getD [sA, sB] x_2.1 (ByteArray.mk (Array.mk [])))).1 == (dirF (vc8_1 c f n) (f.1 + 1, f.2.1, f.2.2.1, f.2.2.2) (List.getD [sA, sB] x_2.1 (ByteArray.mk (Array.mk [])))).1 && ((dirF (vc8_2 c f n) (vc8_5 c f n) (List.getD [sA, sB] x_2.1 (ByteArray.mk (Array.mk [])))).2 == (dirF (vc8_1 c f n) (f.1 + 1, f.2.1, f.2.2.1, f.2.2.2) (List.getD [sA, sB] x_2.1 (ByteArray.mk (Array.mk [])))).2 && true))) = false → ((-9223372036854775808) ≤ (↑x_2.1 : Int) + 1 ∧ (↑x_2.1 : Int) + (1 : Int) ≤ 9223372036854775807) ∧ ∃ (y : Nat), (sV c n = sV c n ∧ tV c n = tV c n ∧ (2 : Int) = 2 ∧ (↑x_2.1 : Int) + 1 = (↑y : Int) ∧ c.1 = c.1 ∧ c.2.1 = c.2.1 ∧ c.2.2.1 = c.2.2.1 ∧ c.2.2.2 = c.2.2.2 ∧ f.1 = f.1 ∧ f.2.1 = f.2.1 ∧ f.2.2.1 = f.2.2.1 ∧ f.2.2.2 = f.2.2.2 ∧ (spV c n).1 = (spV c n).1 ∧ (spV c n).2.1 = (spV c n).2.1 ∧ (spV c n).2.2.1 = (spV c n).2.2.1 ∧ (spV c n).2.2.2 = (spV c n).2.2.2 ∧ [sA, sB] = [sA, sB]) ∧ y ≤ 2 ∧ 2 - y < 2 - x)))) ∧ ((bif decide (sV c n < f.1) then true else bif f.1 == sV c n then decide (tV c n < f.2.1) else false) = false → ((bif f.1 == sV c n then decide (tV c n < f.2.1) else false) = true → (I64 (f.2.1 - tV c n)) ∧ ((vc8_10 c f n) = true → ((-9223372036854775808) ≤ (↑x_2.1 : Int) + 1 ∧ (↑x_2.1 : Int) + (1 : Int) ≤ 9223372036854775807) ∧ ∃ (y : Nat), (sV c n = sV c n ∧ tV c n = tV c n ∧ (2 : Int) = 2 ∧ (↑x_2.1 : Int) + 1 = (↑y : Int) ∧ c.1 = c.1 ∧ c.2.1 = c.2.1 ∧ c.2.2.1 = c.2.2.1 ∧ c.2.2.2 = c.2.2.2 ∧ f.1 = f.1 ∧ f.2.1 = f.2.1 ∧ f.2.2.1 = f.2.2.1 ∧ f.2.2.2 = f.2.2.2 ∧ (spV c n).1 = (spV c n).1 ∧ (spV c n).2.1 = (spV c n).2.1 ∧ (spV c n).2.2.1 = (spV c n).2.2.1 ∧ (spV c n).2.2.2 = (spV c n).2.2.2 ∧ [sA, sB] = [sA, sB]) ∧ y ≤ 2 ∧ 2 - y < 2 - x) ∧ ((vc8_10 c f n) = false → (vc8_4 c f n) ∧ (vc8_3 c f n) ∧ ((bif dirEE (vc8_2 c f n) (vc8_5 c f n) (List.getD [sA, sB] x_2.1 (ByteArray.mk (Array.mk []))) != dirEE (vc8_1 c f n) (f.1, f.2.1 - tV c n, f.2.2.1, f.2.2.2) (List.getD [sA, sB] x_2.1 (ByteArray.mk (Array.mk []))) then true else !((dirF (vc8_2 c f n) (vc8_5 c f n) (List.getD [sA, sB] x_2.1 (ByteArray.mk (Array.mk [])))).1 == (dirF (vc8_1 c f n) (f.1, f.2.1 - tV c n, f.2.2.1, f.2.2.2) (List.getD [sA, sB] x_2.1 (ByteArray.mk (Array.mk [])))).1 && ((dirF (vc8_2 c f n) (vc8_5 c f n) (List.getD [sA, sB] x_2.1 (ByteArray.mk (Array.mk [])))).2 == (dirF (vc8_1 c f n) (f.1, f.2.1 - tV c n, f.2.2.1, f.2.2.2) (List.getD [sA, sB] x_2.1 (ByteArray.mk (Array.mk [])))).2 && true))) = true → false = true) ∧ ((bif dirEE (vc8_2 c f n) (vc8_5 c f n) (List.getD [sA, sB] x_2.1 (ByteArray.mk (Array.mk []))) != dirEE (vc8_1 c f n) (f.1, f.2.1 - tV c n, f.2.2.1, f.2.2.2) (List.getD [sA, sB] x_2.1 (ByteArray.mk (Array.mk []))) then true else !((dirF (vc8_2 c f n) (vc8_5 c f n) (List.getD [sA, sB] x_2.1 (ByteArray.mk (Array.mk [])))).1 == (dirF (vc8_1 c f n) (f.1, f.2.1 - tV c n, f.2.2.1, f.2.2.2) (List.getD [sA, sB] x_2.1 (ByteArray.mk (Array.mk [])))).1 && ((dirF (vc8_2 c f n) (vc8_5 c f n) (List.getD [sA, sB] x_2.1 (ByteArray.mk (Array.mk [])))).2 == (dirF (vc8_1 c f n) (f.1, f.2.1 - tV c n, f.2.2.1, f.2.2.2) (List.getD [sA, sB] x_2.1 (ByteArray.mk (Array.mk [])))).2 && true))) = false → ((-9223372036854775808) ≤ (↑x_2.1 : Int) + 1 ∧ (↑x_2.1 : Int) + (1 : Int) ≤ 9223372036854775807) ∧ ∃ (y : Nat), (sV c n = sV c n ∧ tV c n = tV c n ∧ (2 : Int) = 2 ∧ (↑x_2.1 : Int) + 1 = (↑y : Int) ∧ c.1 = c.1 ∧ c.2.1 = c.2.1 ∧ c.2.2.1 = c.2.2.1 ∧ c.2.2.2 = c.2.2.2 ∧ f.1 = f.1 ∧ f.2.1 = f.2.1 ∧ f.2.2.1 = f.2.2.1 ∧ f.2.2.2 = f.2.2.2 ∧ (spV c n).1 = (spV c n).1 ∧ (spV c n).2.1 = (spV c n).2.1 ∧ (spV c n).2.2.1 = (spV c n).2.2.1 ∧ (spV c n).2.2.2 = (spV c n).2.2.2 ∧ [sA, sB] = [sA, sB]) ∧ y ≤ 2 ∧ 2 - y < 2 - x))) ∧ ((bif f.1 == sV c n then decide (tV c n < f.2.1) else false) = false → ((vc8_10 c f n) = true → ((-9223372036854775808) ≤ (↑x_2.1 : Int) + 1 ∧ (↑x_2.1 : Int) + (1 : Int) ≤ 9223372036854775807) ∧ ∃ (y : Nat), (sV c n = sV c n ∧ tV c n = tV c n ∧ (2 : Int) = 2 ∧ (↑x_2.1 : Int) + 1 = (↑y : Int) ∧ c.1 = c.1 ∧ c.2.1 = c.2.1 ∧ c.2.2.1 = c.2.2.1 ∧ c.2.2.2 = c.2.2.2 ∧ f.1 = f.1 ∧ f.2.1 = f.2.1 ∧ f.2.2.1 = f.2.2.1 ∧ f.2.2.2 = f.2.2.2 ∧ (spV c n).1 = (spV c n).1 ∧ (spV c n).2.1 = (spV c n).2.1 ∧ (spV c n).2.2.1 = (spV c n).2.2.1 ∧ (spV c n).2.2.2 = (spV c n).2.2.2 ∧ [sA, sB] = [sA, sB]) ∧ y ≤ 2 ∧ 2 - y < 2 - x) ∧ ((vc8_10 c f n) = false → (vc8_4 c f n) ∧ (vc8_3 c f n) ∧ ((bif dirEE (vc8_2 c f n) (vc8_5 c f n) (List.getD [sA, sB] x_2.1 (ByteArray.mk (Array.mk []))) != dirEE (vc8_1 c f n) (vc8_5 c f n) (List.getD [sA, sB] x_2.1 (ByteArray.mk (Array.mk []))) then true else !((dirF (vc8_2 c f n) (vc8_5 c f n) (List.getD [sA, sB] x_2.1 (ByteArray.mk (Array.mk [])))).1 == (dirF (vc8_1 c f n) (vc8_5 c f n) (List.getD [sA, sB] x_2.1 (ByteArray.mk (Array.mk [])))).1 && ((dirF (vc8_2 c f n) (vc8_5 c f n) (List.getD [sA, sB] x_2.1 (ByteArray.mk (Array.mk [])))).2 == (dirF (vc8_1 c f n) (vc8_5 c f n) (List.getD [sA, sB] x_2.1 (ByteArray.mk (Array.mk [])))).2 && true))) = true → false = true) ∧ ((bif dirEE (vc8_2 c f n) (vc8_5 c f n) (List.getD [sA, sB] x_2.1 (ByteArray.mk (Array.mk []))) != dirEE (vc8_1 c f n) (vc8_5 c f n) (List.getD [sA, sB] x_2.1 (ByteArray.mk (Array.mk []))) then true else !((dirF (vc8_2 c f n) (vc8_5 c f n) (List.getD [sA, sB] x_2.1 (ByteArray.mk (Array.mk [])))).1 == (dirF (vc8_1 c f n) (vc8_5 c f n) (List.getD [sA, sB] x_2.1 (ByteArray.mk (Array.mk [])))).1 && ((dirF (vc8_2 c f n) (vc8_5 c f n) (List.getD [sA, sB] x_2.1 (ByteArray.mk (Array.mk [])))).2 == (dirF (vc8_1 c f n) (vc8_5 c f n) (List.getD [sA, sB] x_2.1 (ByteArray.mk (Array.mk [])))).2 && true))) = false → ((-9223372036854775808) ≤ (↑x_2.1 : Int) + 1 ∧ (↑x_2.1 : Int) + (1 : Int) ≤ 9223372036854775807) ∧ ∃ (y : Nat), (sV c n = sV c n ∧ tV c n = tV c n ∧ (2 : Int) = 2 ∧ (↑x_2.1 : Int) + 1 = (↑y : Int) ∧ c.1 = c.1 ∧ c.2.1 = c.2.1 ∧ c.2.2.1 = c.2.2.1 ∧ c.2.2.2 = c.2.2.2 ∧ f.1 = f.1 ∧ f.2.1 = f.2.1 ∧ f.2.2.1 = f.2.2.1 ∧ f.2.2.2 = f.2.2.2 ∧ (spV c n).1 = (spV c n).1 ∧ (spV c n).2.1 = (spV c n).2.1 ∧ (spV c n).2.2.1 = (spV c n).2.2.1 ∧ (spV c n).2.2.2 = (spV c n).2.2.2 ∧ [sA, sB] = [sA, sB]) ∧ y ≤ 2 ∧ 2 - y < 2 - x)))))) ∧ (decide ((↑x : Int) < 2) = false → true = true))))))))) := by
 intros
 kernel_rfl
theorem wp8 (c : Cab) (f : Flt) (n : Int × Int) : wpF Tryz.prog G128 (annSp c f n) Tryz.f8 cSplitsL (c, f, n, ()) := by
 refine (vc8 c f n).mpr ?_
 delta vc8_2 vc8_6 vc8_0 vc8_1 vc8_3 vc8_4 vc8_5 vc8_7 vc8_8 vc8_9 vc8_10 vc8_11 vc8_12
 delta I64
 intro hu1 hu2
 refine ⟨⟨fun h => Nat.le_trans (short_len h).1 (by decide), fun h => Nat.le_trans (short_len h).2 (by decide)⟩, fun _ => rfl, fun h => ?_⟩
 have h : (bif bif bif false then true else !shortS c then true else (fltS c f != 0) then true else decide (5 < (c.1.length : Int))) = false := h
 obtain ⟨h, hl⟩ := bnT.1 h
 obtain ⟨h, hf⟩ := bnT.1 h
 have hs := short_len h
 have hf : fltS c f = 0 := bne_eq_false_iff_eq.1 hf
 obtain ⟨hc, hv⟩ := fltS_V hf
 have hcv := hv.1
 have hl5 : c.1.length ≤ 5 := by have := of_decide_eq_false hl; omega
 have h1 : c.1.length ≤ 1000000 := by omega
 have h2 : c.2.1.length ≤ 1000000 := by omega
 have hpos : 0 < c.1.length := hcv.1
 have hs0 : 0 ≤ sV c n ∧ sV c n < c.1.length := ⟨Int.tmod_nonneg _ hu1.1, Int.tmod_lt_of_pos _ (by omega)⟩
 refine ⟨⟨by unfold u8 at hu1; omega, by omega⟩, ?_⟩
 have hsN : (sV c n).toNat < c.1.length := by omega
 have hb := hcv.2.2.1 _ (getD_mem (d := (0, 0)) hsN)
 refine ⟨⟨hs0, hs0⟩, fun _ => rfl, fun hd => ?_⟩
 have hd : 2 ≤ (c.1.getD (sV c n).toNat (0, 0)).2 := by
  have hd : decide ((c.1.getD (sV c n).toNat (0, 0)).2 < 2) = false := hd
  have := of_decide_eq_false hd; omega
 have ht : 1 ≤ tV c n ∧ tV c n < (c.1.getD (sV c n).toNat (0, 0)).2 := by
  have a1 := Int.tmod_nonneg ((c.1.getD (sV c n).toNat (0, 0)).2 - 1) hu2.1
  have a2 := Int.tmod_lt_of_pos n.2 (b := (c.1.getD (sV c n).toNat (0, 0)).2 - 1) (by omega)
  show 1 ≤ 1 + n.2.tmod ((c.1.getD (sV c n).toNat (0, 0)).2 - 1) ∧ 1 + n.2.tmod ((c.1.getD (sV c n).toNat (0, 0)).2 - 1) < (c.1.getD (sV c n).toNat (0, 0)).2
  omega
 have hb1 : -9223372036854775808 ≤ (c.1.getD (sV c n).toNat (0, 0)).2 - 1 ∧ (c.1.getD (sV c n).toNat (0, 0)).2 - 1 ≤ 9223372036854775807 := by omega
 have hb2 : (c.1.getD (sV c n).toNat (0, 0)).2 - 1 = 0 → False := by omega
 have hb3 : -9223372036854775808 ≤ tV c n ∧ tV c n ≤ 9223372036854775807 := by omega
 refine ⟨⟨by unfold u8 at hu2; omega, hs0, hs0, hb1, hb2, hb3⟩, ⟨h1, h2, h1, h2⟩, ?_⟩
 have he : splE c (sV c n) (tV c n) = 0 := by
  unfold splE
  rw [if_pos hc, if_pos (secE_zero.2 hs0)]
  exact within_zero.2 (by omega)
 have heq : splEE c (sV c n) (tV c n) = if partQ (c.1.getD (sV c n).toNat (0, 0)) (tV c n) = 0 then 16 else 0 := by
  unfold splEE splGE
  rw [if_pos he, if_neg (by omega)]
 refine ⟨fun q => ?_, fun q => ?_⟩
 ·have q : ¬ splEE c (sV c n) (tV c n) = 0 := bne_iff_ne.1 q
  show (splEE c (sV c n) (tV c n) == 16) = true
  rw [heq] at q ⊢
  by_cases hq : partQ (c.1.getD (sV c n).toNat (0, 0)) (tV c n) = 0
  ·rw [if_pos hq]; rfl
  ·rw [if_neg hq] at q; exact absurd rfl q
 have q : splEE c (sV c n) (tV c n) = 0 := bne_eq_false_iff_eq.1 q
 have hq : partQ (c.1.getD (sV c n).toNat (0, 0)) (tV c n) ≠ 0 := by
  intro e; rw [heq, if_pos e] at q; cases q
 have hg : splGE c (sV c n) (tV c n) = 0 := by unfold splGE; rw [if_neg (by omega), if_neg hq]
 have eS : spV c n = splitC c (sV c n).toNat (tV c n) := by show splF c (sV c n) (tV c n) = _; unfold splF splG; rw [if_pos he, if_pos hg]
 have hV := split_V (c := c) hcv hsN hl5 ht hq
 rw [← eS] at hV
 have hcS : cabS (spV c n) = 0 := cabV_S hV
 have hlS : (spV c n).1.length = c.1.length + 1 := by rw [eS]; exact splitL_len hsN
 have hsum : sumS (spV c n).1 = sumS c.1 := by rw [eS]; exact split_sum hsN
 have hlj := hV.2.2.2.1
 have hS1 : (spV c n).1.length ≤ 1000000 := by omega
 have hS2 : (spV c n).2.1.length ≤ 1000000 := by omega
 refine ⟨⟨hS1, hS2, hS1, hS2, fun _ => by omega⟩, fun q => ?_, fun _ => ⟨⟨h1, h2, h1, h2⟩, ⟨hS1, hS2, hS1, hS2, hS1, hS2⟩, fun q => ?_, fun _ => ?_⟩⟩
 ·exfalso
  have q : (bif cabS (spV c n) != 0 then true else (((spV c n).1.length : Int) != c.1.length + 1)) = true := q
  rw [hcS, hlS] at q
  simp at q
 ·exfalso
  have q : (bif bif bif bif cabS c != 0 then true else cabS (spV c n) != 0 then true else !((lengthF c).1 == (lengthF (spV c n)).1 && ((lengthF c).2 == (lengthF (spV c n)).2 && true)) then true else decide ((lengthF c).2 < 1) then true else decide (400 < (lengthF c).2)) = true := q
  have e1 : lengthF c = sumS c.1 := by unfold lengthF; rw [if_pos hc]
  have e2 : lengthF (spV c n) = sumS c.1 := by unfold lengthF; rw [if_pos hcS, hsum]
  have hbd := sumS_bd hcv.2.2.1
  rw [e1, e2, hc, hcS, decide_eq_false (by omega), decide_eq_false (by omega)] at q
  simp at q
 have hbd := sumS_bd hcv.2.2.1
 have hbt := fun k : Nat => sumS_bd (l := c.1.take k) fun x hx => hcv.2.2.1 x (List.mem_of_mem_take hx)
 have eL : lengthF c = sumS c.1 := by unfold lengthF; rw [if_pos hc]
 have hsI : ((sV c n).toNat : Int) = sV c n := by omega
 have hpl : ∀ k : Nat, (k : Int) ≤ (sumS c.1).2 → placeE c k = 0 ∧ placeE (spV c n) k = 0 ∧ ((k : Int) ≤ (sumS (c.1.take (sV c n).toNat)).2 ∨ (sumS (c.1.take (sV c n).toNat)).2 + (c.1.getD (sV c n).toNat (0, 0)).2 ≤ (k : Int) → placeF c k = placeF (spV c n) k) := fun k hk => by
  have p1 : placeE c k = 0 := by unfold placeE; rw [if_pos hc]; exact within_zero.2 (by omega)
  have p2 : placeE (spV c n) k = 0 := by unfold placeE; rw [if_pos hcS, hsum]; exact within_zero.2 (by omega)
  refine ⟨p1, p2, fun ho => ?_⟩
  have := split_place (c := c) (t := tV c n) (k := k) hcv hsN ht (by omega) ho
  rw [← eS] at this
  unfold placeF
  rw [if_pos p1, if_pos p2, this]
 have hfa : ∀ (k : Nat) (d : Bool), k < c.1.length → factorE c k (strD d) = 0 ∧ factorE (spV c n) (atS' (sV c n).toNat k) (strD d) = 0 ∧ factorF c k (strD d) = factorF (spV c n) (atS' (sV c n).toNat k) (strD d) := fun k d hk => by
  have z1 : secE c k = 0 := secE_zero.2 (by omega)
  have z2 : secE (spV c n) (atS' (sV c n).toNat k) = 0 := secE_zero.2 (by unfold atS'; split <;> omega)
  have p1 : factorE c k (strD d) = 0 := by unfold factorE; simp [firstS, hc, z1, endS_str]
  have p2 : factorE (spV c n) (atS' (sV c n).toNat k) (strD d) = 0 := by unfold factorE; simp [firstS, hcS, z2, endS_str]
  refine ⟨p1, p2, ?_⟩
  have := split_factor (c := c) (t := tV c n) hcv hsN (strD d) k
  rw [← eS] at this
  unfold factorF
  rw [if_pos p1, if_pos p2, this]
 have hdi : ∀ d : Bool, ¬ (f.1 = sV c n ∧ f.2.1 = tV c n) → dirEE c f (strD d) = dirEE (spV c n) (movedF f (sV c n).toNat (tV c n)) (strD d) ∧ dirF c f (strD d) = dirF (spV c n) (movedF f (sV c n).toNat (tV c n)) (strD d) := fun d hne => by
  have hne : ¬ (f.1 = (sV c n).toNat ∧ f.2.1 = tV c n) := by rw [hsI]; exact hne
  have hm := (moved_ok (c := c) (f := f) hv hsN hl5 ht hq hne).1
  have hg := split_direct (c := c) (f := f) hv hsN hl5 ht hq hne d
  rw [← eS] at hm hg
  have z1 : dirE c f (strD d) = 0 := by unfold dirE; simp [firstS, hf, endS_str]
  have z2 : dirE (spV c n) (movedF f (sV c n).toNat (tV c n)) (strD d) = 0 := by unfold dirE; simp [firstS, fltV_S hm, endS_str]
  unfold dirEE dirF
  rw [if_pos z1, if_pos z2, if_pos z1, if_pos z2, hg.1, hg.2]
  exact ⟨rfl, rfl⟩
 refine ⟨(0 : Nat), ⟨rfl, rfl, rfl, rfl, rfl, rfl, rfl, rfl, rfl, rfl, rfl, rfl, rfl, rfl, rfl, rfl, rfl, rfl, rfl⟩, hs0.1, fun (k : Nat) (hk : (k : Int) ≤ sV c n) => ⟨fun h => ?_, fun h => ?_⟩⟩
 ·have h : (k : Int) < sV c n := of_decide_eq_true h
  have hkN : k < c.1.length := by omega
  have hb' := hcv.2.2.1 _ (getD_mem (d := (0, 0)) hkN)
  have hbk := hbt k
  have hlk : (c.1.take k).length ≤ 5 := by rw [List.length_take]; omega
  have et := congrArg Prod.snd (sumS_take hkN)
  refine ⟨⟨by omega, by omega, by omega⟩, by omega, (k + 1 : Nat), ⟨rfl, rfl, et.symm, rfl, by simp, rfl, rfl, rfl, rfl, rfl, rfl, rfl, rfl, rfl, rfl, rfl, rfl, rfl, rfl⟩, ?_, ?_⟩
  ·show ((k + 1 : Nat) : Int) ≤ sV c n
   omega
  ·show (sV c n).toNat - (k + 1) < (sV c n).toNat - k
   omega
 have h : ¬ (k : Int) < sV c n := of_decide_eq_false h
 have ek : k = (sV c n).toNat := by omega
 subst ek
 have hbk := hbt (sV c n).toNat
 have hlk : (c.1.take (sV c n).toNat).length ≤ 5 := by rw [List.length_take]; omega
 have hL2 : (lengthF c).2 = (sumS c.1).2 := by rw [eL]
 refine ⟨⟨by omega, by omega⟩, (0 : Nat), ⟨rfl, rfl, rfl, rfl, rfl, rfl, rfl, rfl, rfl, rfl, rfl, rfl, rfl, rfl, rfl, rfl, rfl⟩, by show ((0 : Nat) : Int) ≤ (lengthF c).2 + 1; omega, fun (k : Nat) (hk : (k : Int) ≤ (lengthF c).2 + 1) => ⟨fun h => ?_, fun h => ?_⟩⟩
 ·have h : (k : Int) < (lengthF c).2 + 1 := of_decide_eq_true h
  obtain ⟨p1, p2, p3⟩ := hpl k (by omega)
  have hlf := leafP p1 p2 p3
  refine ⟨⟨h1, h2, h1, h2⟩, ⟨hS1, hS2, hS1, hS2, hS1, hS2⟩, ⟨fun _ => hs0, fun _ => hs0, fun _ => by omega⟩, fun q => ?_, fun _ => ⟨by omega, (k + 1 : Nat), ⟨rfl, rfl, rfl, rfl, by simp, rfl, rfl, rfl, rfl, rfl, rfl, rfl, rfl, rfl, rfl, rfl, rfl⟩, ?_, ?_⟩⟩
  ·exact Bool.noConfusion (hlf.symm.trans q)
  ·show ((k + 1 : Nat) : Int) ≤ (lengthF c).2 + 1
   omega
  ·show ((lengthF c).2 + 1).toNat - (k + 1) < ((lengthF c).2 + 1).toNat - k
   omega
 clear hpl h hk k
 refine ⟨(0 : Nat), ⟨rfl, rfl, rfl, rfl, rfl, rfl, rfl, rfl, rfl, rfl, rfl, rfl, rfl, rfl, rfl, rfl, rfl⟩, Nat.zero_le _, fun (x : Nat) hx => ⟨fun h => ?_, fun _ => rfl⟩⟩
 have hx2 : x < 2 := by have := of_decide_eq_true h; omega
 refine ⟨⟨by omega, by omega⟩, ((x, 0) : Nat × Nat), ⟨rfl, rfl, rfl, rfl, rfl, rfl, rfl, rfl, rfl, rfl, rfl, rfl, rfl, rfl, rfl, rfl, rfl, rfl, rfl, rfl⟩, ⟨⟨hx2, Nat.zero_le _⟩, rfl⟩, ?_⟩
 rintro ⟨x', k⟩ ⟨⟨_, hk⟩, (rfl : x = x')⟩
 obtain ⟨d, hd⟩ := getE8 hx2
 refine ⟨fun h => ?_, fun h => ?_⟩
 ·have h : k < c.1.length := by have := of_decide_eq_true h; omega
  obtain ⟨p1, p2, p3⟩ := hfa k d h
  rw [← hd] at p1 p2 p3
  have hlf := leaf2 p1 p2 p3
  refine ⟨fun hw => ?_, fun hw => ?_⟩
  ·have hw : sV c n < (k : Int) := of_decide_eq_true hw
   have ea : atS' (sV c n).toNat k = (k : Int) + 1 := by unfold atS'; rw [if_pos (by omega)]
   rw [ea] at hlf
   refine ⟨by omega, ⟨h1, h2, h1, h2⟩, ⟨hS1, hS2, hS1, hS2, hS1, hS2⟩, fun q => ?_, fun _ => ⟨by omega, ((x, k + 1) : Nat × Nat), ⟨rfl, rfl, rfl, rfl, rfl, rfl, by simp, rfl, rfl, rfl, rfl, rfl, rfl, rfl, rfl, rfl, rfl, rfl, rfl, rfl⟩, ⟨⟨hx2, h⟩, rfl⟩, by dsimp only; omega⟩⟩
   exact Bool.noConfusion (hlf.symm.trans q)
  ·have hw : ¬ sV c n < (k : Int) := of_decide_eq_false hw
   have ea : atS' (sV c n).toNat k = (k : Int) := by unfold atS'; rw [if_neg (by omega)]
   rw [ea] at hlf
   refine ⟨⟨h1, h2, h1, h2⟩, ⟨hS1, hS2, hS1, hS2, hS1, hS2⟩, fun q => ?_, fun _ => ⟨by omega, ((x, k + 1) : Nat × Nat), ⟨rfl, rfl, rfl, rfl, rfl, rfl, by simp, rfl, rfl, rfl, rfl, rfl, rfl, rfl, rfl, rfl, rfl, rfl, rfl, rfl⟩, ⟨⟨hx2, h⟩, rfl⟩, by dsimp only; omega⟩⟩
   exact Bool.noConfusion (hlf.symm.trans q)
 have g1 := hv.2.1
 have g2 := hv.2.2.1
 have hbF := hcv.2.2.1 _ (getD_mem (d := (0, 0)) (l := c.1) (k := f.1.toNat) (by omega))
 have hI1 : -9223372036854775808 ≤ f.1 + 1 ∧ f.1 + 1 ≤ 9223372036854775807 := by omega
 have hI2 : -9223372036854775808 ≤ f.2.1 - tV c n ∧ f.2.1 - tV c n ≤ 9223372036854775807 := by omega
 have hI3 : -9223372036854775808 ≤ (x : Int) + 1 ∧ (x : Int) + 1 ≤ 9223372036854775807 := by omega
 have hlf := fun hne => leaf3 (hd ▸ (hdi d hne).1) (hd ▸ (hdi d hne).2)
 refine ⟨fun c1 => ⟨hI1, fun c2 => ⟨hI2, fun c3 => ?_, fun c3 => ?_⟩, fun c2 => ⟨fun c3 => ?_, fun c3 => ?_⟩⟩, fun c1 => ⟨fun c2 => ⟨hI2, fun c3 => ?_, fun c3 => ?_⟩, fun c2 => ⟨fun c3 => ?_, fun c3 => ?_⟩⟩⟩
 ·exact ⟨hI3, (x + 1 : Nat), ⟨rfl, rfl, rfl, by simp, rfl, rfl, rfl, rfl, rfl, rfl, rfl, rfl, rfl, rfl, rfl, rfl, rfl⟩, by show x + 1 ≤ 2; omega, by show 2 - (x + 1) < 2 - x; omega⟩
 ·have c2 := bnE.1 c2
  have em : movedF f (sV c n).toNat (tV c n) = (f.1 + 1, f.2.1 - tV c n, f.2.2) := by
   unfold movedF
   rw [if_neg (by omega), if_pos (by rw [hsI]; exact c2)]
  have hlf := hlf (bnE3.1 c3)
  rw [em] at hlf
  exact ⟨⟨h1, h2, h1, h2⟩, ⟨hS1, hS2, hS1, hS2, hS1, hS2⟩, fun q => Bool.noConfusion (hlf.symm.trans q), fun _ => ⟨hI3, (x + 1 : Nat), ⟨rfl, rfl, rfl, by simp, rfl, rfl, rfl, rfl, rfl, rfl, rfl, rfl, rfl, rfl, rfl, rfl, rfl⟩, by show x + 1 ≤ 2; omega, by show 2 - (x + 1) < 2 - x; omega⟩⟩
 ·exact ⟨hI3, (x + 1 : Nat), ⟨rfl, rfl, rfl, by simp, rfl, rfl, rfl, rfl, rfl, rfl, rfl, rfl, rfl, rfl, rfl, rfl, rfl⟩, by show x + 1 ≤ 2; omega, by show 2 - (x + 1) < 2 - x; omega⟩
 ·have c2 := bnE'.1 c2
  have c1 : sV c n < f.1 := by
   rcases bnO.1 c1 with h | h
   ·exact h
   ·exact absurd (bnE.1 h) c2
  have em : movedF f (sV c n).toNat (tV c n) = (f.1 + 1, f.2) := by
   unfold movedF
   rw [if_pos (by omega)]
  have hlf := hlf (bnE3.1 c3)
  rw [em] at hlf
  exact ⟨⟨h1, h2, h1, h2⟩, ⟨hS1, hS2, hS1, hS2, hS1, hS2⟩, fun q => Bool.noConfusion (hlf.symm.trans q), fun _ => ⟨hI3, (x + 1 : Nat), ⟨rfl, rfl, rfl, by simp, rfl, rfl, rfl, rfl, rfl, rfl, rfl, rfl, rfl, rfl, rfl, rfl, rfl⟩, by show x + 1 ≤ 2; omega, by show 2 - (x + 1) < 2 - x; omega⟩⟩
 ·exact ⟨hI3, (x + 1 : Nat), ⟨rfl, rfl, rfl, by simp, rfl, rfl, rfl, rfl, rfl, rfl, rfl, rfl, rfl, rfl, rfl, rfl, rfl⟩, by show x + 1 ≤ 2; omega, by show 2 - (x + 1) < 2 - x; omega⟩
 ·have : (bif decide (sV c n < f.1) then true else bif f.1 == sV c n then decide (tV c n < f.2.1) else false) = true := bnO.2 (.inr c2)
  exact Bool.noConfusion (this.symm.trans c1)
 ·exact ⟨hI3, (x + 1 : Nat), ⟨rfl, rfl, rfl, by simp, rfl, rfl, rfl, rfl, rfl, rfl, rfl, rfl, rfl, rfl, rfl, rfl, rfl⟩, by show x + 1 ≤ 2; omega, by show 2 - (x + 1) < 2 - x; omega⟩
 ·have c2 := bnE'.1 c2
  have c1 : ¬ sV c n < f.1 := fun h => by
   have : (bif decide (sV c n < f.1) then true else bif f.1 == sV c n then decide (tV c n < f.2.1) else false) = true := bnO.2 (.inl h)
   exact Bool.noConfusion (this.symm.trans c1)
  have em : movedF f (sV c n).toNat (tV c n) = f := by
   unfold movedF
   rw [if_neg (by omega), if_neg (by rw [hsI]; exact c2)]
  have hlf := hlf (bnE3.1 c3)
  rw [em] at hlf
  exact ⟨⟨h1, h2, h1, h2⟩, ⟨hS1, hS2, hS1, hS2, hS1, hS2⟩, fun q => Bool.noConfusion (hlf.symm.trans q), fun _ => ⟨hI3, (x + 1 : Nat), ⟨rfl, rfl, rfl, by simp, rfl, rfl, rfl, rfl, rfl, rfl, rfl, rfl, rfl, rfl, rfl, rfl, rfl⟩, by show x + 1 ≤ 2; omega, by show 2 - (x + 1) < 2 - x; omega⟩⟩
theorem ok8 : Ok Tryz.prog 8 cSplitsL := ok_of_wp mixed g128 (by kernel_rfl) (by kernel_rfl) (fun xx => annSp xx.1 xx.2.1 xx.2.2.1) fun xx => wp8 xx.1 xx.2.1 xx.2.2.1
end Go.Proofs.YtcledkhhecdppaaGreatDoor
