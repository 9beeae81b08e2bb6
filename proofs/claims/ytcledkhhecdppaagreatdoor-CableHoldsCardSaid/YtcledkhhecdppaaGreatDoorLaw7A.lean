/- The law walked: part of the proof. -/
import Derived.Test.YtcledkhhecdppaaGreatDoorFC
set_option linter.unusedSimpArgs false
set_option linter.unusedVariables false
set_option maxRecDepth 20000
namespace Go.Proofs.YtcledkhhecdppaaGreatDoor
open Go.Sx
set_option maxHeartbeats 20000000
set_option pp.deepTerms true
set_option pp.maxSteps 1000000
abbrev s84 : Sch := .prod (.int .u8) (.prod (.int .u8) (.prod (.int .u8) (.int .u8)))
abbrev U4 : Type := Int × Int × Int × Int
def u8' (n : Int) : Prop := 0 ≤ n ∧ n ≤ 255
def cHoldsL : Con := { args := [aCR, aF, .val true s84], ress := [Bo], owns := [], pre := fun (_, _, n, _) => [u8' n.1, u8' n.2.1, u8' n.2.2.1, u8' n.2.2.2], spec := fun _ => (true, ()) }
abbrev aH (c : Cab) (f : Flt) : Int × Int := dirF c f sA
abbrev bH (c : Cab) (f : Flt) : Int × Int := dirF c f sB
abbrev pnH (c : Cab) (f : Flt) (n : U4) : Pln := ((max (aH c f).2 (0 - (aH c f).2), max (bH c f).2 (0 - (bH c f).2)), n.1.tmod 31, 1 + n.2.1 * 262144, 400)
abbrev lH (c : Cab) (f : Flt) : List Arr := arrP c f 500
abbrev tH (c : Cab) (f : Flt) (n : U4) : Int × Int := clrF c f (pnH c f n)
abbrev sumH (c : Cab) (f : Flt) (n : U4) (e : ByteArray) (i : Int) (ti fi : Int) : Ann := { X := Nat × Int, σ := fun p => ⟨40, [(4, .one (.ptr 3 0)), (11, .one (.sl 10)), (27, .one (.ptr 12 0)), (28, .one (.ptr 11 0)), (30, .one (.int .i64 i)), (31, .one (.int .i64 fi)), (32, .one (.str e)), (33, .one (.int .i64 p.2)), (337, .v true [.int .i64 (aH c f).1, .int .i64 (bH c f).1]), (338, .one (.int .i64 i)), (346, .one (.sl 10)), (347, .one (.int .i64 (lH c f).length)), (348, .one (.int .i64 p.1))], [(3, .box 28 [.int .i64 f.1, .int .i64 f.2.1, .int .i64 f.2.2.1, .int .i64 f.2.2.2]), (10, .imm 107 sArr (lH c f)), (11, .box 24 [.int .i64 (tH c f n).1, .int .i64 (tH c f n).2]), (12, .box 94 [.int .i64 (pnH c f n).1.1, .int .i64 (pnH c f n).1.2, .int .i64 (pnH c f n).2.1, .int .i64 (pnH c f n).2.2.1, .int .i64 400])]⟩, inv := fun p => p.1 ≤ (lH c f).length ∧ (-(80000000000000 * (p.1 : Int)) ≤ p.2 ∧ p.2 ≤ 80000000000000 * p.1) ∧ sumAt (lH c f) e (min ti (f.2.2.1 + 400)) = sumGo e (min ti (f.2.2.1 + 400)) ((lH c f).drop p.1) p.2, mu := fun p => (lH c f).length - p.1 }
abbrev AIH (c : Cab) (f : Flt) (n : U4) : Int × Int := (max 0 (max 0 ((aH c f).1 - n.1.tmod 10 + n.2.2.1.tmod (2 * n.1.tmod 10 + 1)) - n.1.tmod 10), max 0 ((aH c f).1 - n.1.tmod 10 + n.2.2.1.tmod (2 * n.1.tmod 10 + 1)) + n.1.tmod 10)
abbrev BIH (c : Cab) (f : Flt) (n : U4) : Int × Int := (max 0 (max 0 ((bH c f).1 - n.2.1.tmod 10 + n.2.2.2.tmod (2 * n.2.1.tmod 10 + 1)) - n.2.1.tmod 10), max 0 ((bH c f).1 - n.2.1.tmod 10 + n.2.2.2.tmod (2 * n.2.1.tmod 10 + 1)) + n.2.1.tmod 10)
abbrev pH (c : Cab) (f : Flt) (n : U4) : RR := locF c (AIH c f n) (BIH c f n)
abbrev annHo (c : Cab) (f : Flt) (n : U4) : Nat → Option Ann := fun i =>
 if i = 0 then some { X := Nat, σ := fun k => ⟨20, [(3, .one (.ptr 2 0)), (4, .one (.ptr 3 0)), (5, .one (.ptr 4 0)), (7, .one (.ptr 7 0)), (9, .one (.ptr 8 0)), (11, .one (.sl 10)), (13, .one (.int .i64 (f.2.1 + (sumS (c.1.take k)).2))), (120, .one (.int .i64 f.1)), (121, .one (.int .i64 k))], [(0, .imm 102 sPt c.1), (1, .imm 3 sI c.2.1), (2, .box 26 [.sl 0, .sl 1, .int .i64 c.2.2.1, .int .i64 c.2.2.2]), (3, .box 28 [.int .i64 f.1, .int .i64 f.2.1, .int .i64 f.2.2.1, .int .i64 f.2.2.2]), (4, .box 99 [.int .u8 n.1, .int .u8 n.2.1, .int .u8 n.2.2.1, .int .u8 n.2.2.2]), (7, .box 24 [.int .i64 (aH c f).1, .int .i64 (aH c f).2]), (8, .box 24 [.int .i64 (bH c f).1, .int .i64 (bH c f).2]), (10, .imm 107 sArr (lH c f))]⟩, inv := fun k => (k : Int) ≤ f.1, mu := fun k => f.1.toNat - k }
 else if i = 2 then some { X := Unit, σ := fun _ => ⟨0, [], []⟩, inv := fun _ => True, mu := fun _ => 0, un := 3 }
 else if i = 4 then some { X := Unit, σ := fun _ => ⟨0, [], []⟩, inv := fun _ => True, mu := fun _ => 0, un := 3 }
 else if i = 3006 then some (sumH c f n sA 0 (tH c f n).1 (aH c f).1)
 else if i = 2006 then some (sumH c f n sB 1 (tH c f n).2 (bH c f).1)
 else none
def vc7_0 (c : Cab) (f : Flt) (n : U4) := (locF (c.1, c.2.1, c.2.2.1, c.2.2.2) (max (0 : Int) (max (0 : Int) ((aH c f).1 - Int.tmod n.1 (10 : Int) + Int.tmod n.2.2.1 ((2 : Int) * Int.tmod n.1 (10 : Int) + (1 : Int))) - Int.tmod n.1 (10 : Int)), max (0 : Int) ((aH c f).1 - Int.tmod n.1 (10 : Int) + Int.tmod n.2.2.1 ((2 : Int) * Int.tmod n.1 (10 : Int) + (1 : Int))) + Int.tmod n.1 (10 : Int)) (max (0 : Int) (max (0 : Int) ((bH c f).1 - Int.tmod n.2.1 (10 : Int) + Int.tmod n.2.2.2 ((2 : Int) * Int.tmod n.2.1 (10 : Int) + (1 : Int))) - Int.tmod n.2.1 (10 : Int)), max (0 : Int) ((bH c f).1 - Int.tmod n.2.1 (10 : Int) + Int.tmod n.2.2.2 ((2 : Int) * Int.tmod n.2.1 (10 : Int) + (1 : Int))) + Int.tmod n.2.1 (10 : Int)))
def vc7_1 (c : Cab) (f : Flt) (n : U4) (x : Nat) := (placeF (c.1, c.2.1, c.2.2.1, c.2.2.2) (f.2.1 + (sumS (List.take x c.1)).2))
def vc7_2 (c : Cab) (f : Flt) (n : U4) (x : Nat × Int) := (List.getD (lH c f) x.1 ((0 : Int), ByteArray.mk (Array.mk []), (0 : Int)))
def vc7_3 (c : Cab) (f : Flt) (n : U4) (x : Nat × Int) := (decide ((↑x.1 : Int) < (↑(List.length (lH c f)) : Int)) = false → (((-9223372036854775808 : Int) ≤ (bH c f).1 + (pnH c f n).2.1 ∧ (bH c f).1 + (pnH c f n).2.1 ≤ (9223372036854775807 : Int)) ∧ (decide ((tH c f n).2 < (bH c f).1 + (pnH c f n).2.1) = false → (-9223372036854775808 : Int) ≤ (bH c f).1 + (pnH c f n).2.1 ∧ (bH c f).1 + (pnH c f n).2.1 ≤ (9223372036854775807 : Int)) ∧ (decide ((tH c f n).2 < (bH c f).1 + (pnH c f n).2.1) = false → (-9223372036854775808 : Int) ≤ (bH c f).1 + (pnH c f n).2.1 + (400 : Int) ∧ (bH c f).1 + (pnH c f n).2.1 + (400 : Int) ≤ (9223372036854775807 : Int)) ∧ ((bif decide ((tH c f n).2 < (bH c f).1 + (pnH c f n).2.1) then true else decide ((bH c f).1 + (pnH c f n).2.1 + (400 : Int) < (tH c f n).2)) = false → (-9223372036854775808 : Int) ≤ (0 : Int) - x.2 ∧ (0 : Int) - x.2 ≤ (9223372036854775807 : Int))) ∧ ((bif bif decide ((tH c f n).2 < (bH c f).1 + (pnH c f n).2.1) then true else decide ((bH c f).1 + (pnH c f n).2.1 + (400 : Int) < (tH c f n).2) then true else decide ((pnH c f n).2.2.1 ≤ max x.2 ((0 : Int) - x.2))) = true → true = true ∧ false = true) ∧ ((bif bif decide ((tH c f n).2 < (bH c f).1 + (pnH c f n).2.1) then true else decide ((bH c f).1 + (pnH c f n).2.1 + (400 : Int) < (tH c f n).2) then true else decide ((pnH c f n).2.2.1 ≤ max x.2 ((0 : Int) - x.2))) = false → ((-9223372036854775808 : Int) ≤ (1 : Int) + (1 : Int) ∧ (1 : Int) + (1 : Int) ≤ (9223372036854775807 : Int)) ∧ (false = true → STUCK (9999 : Nat) (1 : Nat)) ∧ (false = false → true = true ∧ true = true)))
def vc7_4 (c : Cab) (f : Flt) (n : U4) (x : Nat × Int) := ((0 : Int) = (0 : Int) ∧ (aH c f).1 = (aH c f).1 ∧ ByteArray.mk (Array.mk [(65 : UInt8)]) = sA ∧ (0 : Int) = x.2 ∧ (aH c f).1 = (aH c f).1 ∧ (bH c f).1 = (bH c f).1 ∧ (0 : Int) = (0 : Int) ∧ (↑(List.length (lH c f)) : Int) = (↑(List.length (lH c f)) : Int) ∧ (0 : Int) = (↑x.1 : Int) ∧ f.1 = f.1 ∧ f.2.1 = f.2.1 ∧ f.2.2.1 = f.2.2.1 ∧ f.2.2.2 = f.2.2.2 ∧ lH c f = lH c f ∧ (clrF (c.1, c.2.1, c.2.2.1, c.2.2.2) (f.1, f.2.1, f.2.2.1, f.2.2.2) ((max (aH c f).2 ((0 : Int) - (aH c f).2), max (bH c f).2 ((0 : Int) - (bH c f).2)), Int.tmod n.1 (31 : Int), (1 : Int) + n.2.1 * (262144 : Int), (400 : Int))).1 = (tH c f n).1 ∧ (clrF (c.1, c.2.1, c.2.2.1, c.2.2.2) (f.1, f.2.1, f.2.2.1, f.2.2.2) ((max (aH c f).2 ((0 : Int) - (aH c f).2), max (bH c f).2 ((0 : Int) - (bH c f).2)), Int.tmod n.1 (31 : Int), (1 : Int) + n.2.1 * (262144 : Int), (400 : Int))).2 = (tH c f n).2 ∧ max (aH c f).2 ((0 : Int) - (aH c f).2) = (pnH c f n).1.1 ∧ max (bH c f).2 ((0 : Int) - (bH c f).2) = (pnH c f n).1.2 ∧ Int.tmod n.1 (31 : Int) = (pnH c f n).2.1 ∧ (1 : Int) + n.2.1 * (262144 : Int) = (pnH c f n).2.2.1 ∧ (400 : Int) = (400 : Int))
def vc7_5 (c : Cab) (f : Flt) (n : U4) (x : Nat × Int) := (((-9223372036854775808 : Int) ≤ (aH c f).1 + (pnH c f n).2.1 ∧ (aH c f).1 + (pnH c f n).2.1 ≤ (9223372036854775807 : Int)) ∧ (decide ((tH c f n).1 < (aH c f).1 + (pnH c f n).2.1) = false → (-9223372036854775808 : Int) ≤ (aH c f).1 + (pnH c f n).2.1 ∧ (aH c f).1 + (pnH c f n).2.1 ≤ (9223372036854775807 : Int)) ∧ (decide ((tH c f n).1 < (aH c f).1 + (pnH c f n).2.1) = false → (-9223372036854775808 : Int) ≤ (aH c f).1 + (pnH c f n).2.1 + (400 : Int) ∧ (aH c f).1 + (pnH c f n).2.1 + (400 : Int) ≤ (9223372036854775807 : Int)) ∧ ((bif decide ((tH c f n).1 < (aH c f).1 + (pnH c f n).2.1) then true else decide ((aH c f).1 + (pnH c f n).2.1 + (400 : Int) < (tH c f n).1)) = false → (-9223372036854775808 : Int) ≤ (0 : Int) - x.2 ∧ (0 : Int) - x.2 ≤ (9223372036854775807 : Int)))
def vc7_6 (c : Cab) (f : Flt) (n : U4) (x : Nat) := (((-9223372036854775808 : Int) ≤ (vc7_0 c f n).1 * (vc7_1 c f n x).2 ∧ (vc7_0 c f n).1 * (vc7_1 c f n x).2 ≤ (9223372036854775807 : Int)) ∧ ((-9223372036854775808 : Int) ≤ (vc7_1 c f n x).1 * (vc7_0 c f n).2.1 ∧ (vc7_1 c f n x).1 * (vc7_0 c f n).2.1 ≤ (9223372036854775807 : Int)) ∧ (decide ((vc7_1 c f n x).1 * (vc7_0 c f n).2.1 < (vc7_0 c f n).1 * (vc7_1 c f n x).2) = false → (-9223372036854775808 : Int) ≤ (vc7_0 c f n).2.2.1 * (vc7_1 c f n x).2 ∧ (vc7_0 c f n).2.2.1 * (vc7_1 c f n x).2 ≤ (9223372036854775807 : Int)) ∧ (decide ((vc7_1 c f n x).1 * (vc7_0 c f n).2.1 < (vc7_0 c f n).1 * (vc7_1 c f n x).2) = false → (-9223372036854775808 : Int) ≤ (vc7_1 c f n x).1 * (vc7_0 c f n).2.2.2 ∧ (vc7_1 c f n x).1 * (vc7_0 c f n).2.2.2 ≤ (9223372036854775807 : Int)))
def vc7_7 (c : Cab) (f : Flt) (n : U4) := (c.1, c.2.1, c.2.2.1, c.2.2.2)
def vc7_8 (c : Cab) (f : Flt) (n : U4) (x : Nat × Int) := ((0 : Int) + (1 : Int) = (1 : Int) ∧ (bH c f).1 = (bH c f).1 ∧ ByteArray.mk (Array.mk [(66 : UInt8)]) = sB ∧ (0 : Int) = x.2 ∧ (aH c f).1 = (aH c f).1 ∧ (bH c f).1 = (bH c f).1 ∧ (0 : Int) + (1 : Int) = (1 : Int) ∧ (↑(List.length (lH c f)) : Int) = (↑(List.length (lH c f)) : Int) ∧ (0 : Int) = (↑x.1 : Int) ∧ f.1 = f.1 ∧ f.2.1 = f.2.1 ∧ f.2.2.1 = f.2.2.1 ∧ f.2.2.2 = f.2.2.2 ∧ lH c f = lH c f ∧ (tH c f n).1 = (tH c f n).1 ∧ (tH c f n).2 = (tH c f n).2 ∧ (pnH c f n).1.1 = (pnH c f n).1.1 ∧ (pnH c f n).1.2 = (pnH c f n).1.2 ∧ (pnH c f n).2.1 = (pnH c f n).2.1 ∧ (pnH c f n).2.2.1 = (pnH c f n).2.2.1 ∧ (400 : Int) = (400 : Int))
def vc7_9 (c : Cab) (f : Flt) (n : U4) (y : Nat × Int) := (y.1 ≤ List.length (lH c f) ∧ (-((80000000000000 : Int) * (↑y.1 : Int)) ≤ y.2 ∧ y.2 ≤ (80000000000000 : Int) * (↑y.1 : Int)) ∧ sumAt (lH c f) sA (min (tH c f n).1 (f.2.2.1 + (400 : Int))) = sumGo sA (min (tH c f n).1 (f.2.2.1 + (400 : Int))) (List.drop y.1 (lH c f)) y.2)
def vc7_10 (c : Cab) (f : Flt) (n : U4) (y : Nat × Int) := (y.1 ≤ List.length (lH c f) ∧ (-((80000000000000 : Int) * (↑y.1 : Int)) ≤ y.2 ∧ y.2 ≤ (80000000000000 : Int) * (↑y.1 : Int)) ∧ sumAt (lH c f) sB (min (tH c f n).2 (f.2.2.1 + (400 : Int))) = sumGo sB (min (tH c f n).2 (f.2.2.1 + (400 : Int))) (List.drop y.1 (lH c f)) y.2)
def vc7_11 (c : Cab) (f : Flt) (n : U4) := (((-9223372036854775808 : Int) ≤ (0 : Int) - (aH c f).2 ∧ (0 : Int) - (aH c f).2 ≤ (9223372036854775807 : Int)) ∧ ((-9223372036854775808 : Int) ≤ (0 : Int) - (bH c f).2 ∧ (0 : Int) - (bH c f).2 ≤ (9223372036854775807 : Int)) ∧ ((-9223372036854775808 : Int) ≤ n.1 ∧ n.1 ≤ (9223372036854775807 : Int)) ∧ ((31 : Int) = (0 : Int) → False) ∧ ((-9223372036854775808 : Int) ≤ n.2.1 ∧ n.2.1 ≤ (9223372036854775807 : Int)) ∧ ((-9223372036854775808 : Int) ≤ n.2.1 * (262144 : Int) ∧ n.2.1 * (262144 : Int) ≤ (9223372036854775807 : Int)) ∧ (-9223372036854775808 : Int) ≤ (1 : Int) + n.2.1 * (262144 : Int) ∧ (1 : Int) + n.2.1 * (262144 : Int) ≤ (9223372036854775807 : Int))
def vc7_12 (c : Cab) (f : Flt) (n : U4) (x : Nat × Int) (y : Nat × Int) := ((0 : Int) = (0 : Int) ∧ (aH c f).1 = (aH c f).1 ∧ sA = sA ∧ x.2 + (vc7_2 c f n x).2.2 = y.2 ∧ (aH c f).1 = (aH c f).1 ∧ (bH c f).1 = (bH c f).1 ∧ (0 : Int) = (0 : Int) ∧ (↑(List.length (lH c f)) : Int) = (↑(List.length (lH c f)) : Int) ∧ (↑x.1 : Int) + (1 : Int) = (↑y.1 : Int) ∧ f.1 = f.1 ∧ f.2.1 = f.2.1 ∧ f.2.2.1 = f.2.2.1 ∧ f.2.2.2 = f.2.2.2 ∧ lH c f = lH c f ∧ (tH c f n).1 = (tH c f n).1 ∧ (tH c f n).2 = (tH c f n).2 ∧ (pnH c f n).1.1 = (pnH c f n).1.1 ∧ (pnH c f n).1.2 = (pnH c f n).1.2 ∧ (pnH c f n).2.1 = (pnH c f n).2.1 ∧ (pnH c f n).2.2.1 = (pnH c f n).2.2.1 ∧ (400 : Int) = (400 : Int))
def vc7_13 (c : Cab) (f : Flt) (n : U4) (x : Nat × Int) (y : Nat × Int) := ((1 : Int) = (1 : Int) ∧ (bH c f).1 = (bH c f).1 ∧ sB = sB ∧ x.2 + (vc7_2 c f n x).2.2 = y.2 ∧ (aH c f).1 = (aH c f).1 ∧ (bH c f).1 = (bH c f).1 ∧ (1 : Int) = (1 : Int) ∧ (↑(List.length (lH c f)) : Int) = (↑(List.length (lH c f)) : Int) ∧ (↑x.1 : Int) + (1 : Int) = (↑y.1 : Int) ∧ f.1 = f.1 ∧ f.2.1 = f.2.1 ∧ f.2.2.1 = f.2.2.1 ∧ f.2.2.2 = f.2.2.2 ∧ lH c f = lH c f ∧ (tH c f n).1 = (tH c f n).1 ∧ (tH c f n).2 = (tH c f n).2 ∧ (pnH c f n).1.1 = (pnH c f n).1.1 ∧ (pnH c f n).1.2 = (pnH c f n).1.2 ∧ (pnH c f n).2.1 = (pnH c f n).2.1 ∧ (pnH c f n).2.2.1 = (pnH c f n).2.2.1 ∧ (400 : Int) = (400 : Int))
def vc7_14 (c : Cab) (f : Flt) (n : U4) (x : Nat × Int) (y : Nat × Int) := ((0 : Int) = (0 : Int) ∧ (aH c f).1 = (aH c f).1 ∧ sA = sA ∧ x.2 = y.2 ∧ (aH c f).1 = (aH c f).1 ∧ (bH c f).1 = (bH c f).1 ∧ (0 : Int) = (0 : Int) ∧ (↑(List.length (lH c f)) : Int) = (↑(List.length (lH c f)) : Int) ∧ (↑x.1 : Int) + (1 : Int) = (↑y.1 : Int) ∧ f.1 = f.1 ∧ f.2.1 = f.2.1 ∧ f.2.2.1 = f.2.2.1 ∧ f.2.2.2 = f.2.2.2 ∧ lH c f = lH c f ∧ (tH c f n).1 = (tH c f n).1 ∧ (tH c f n).2 = (tH c f n).2 ∧ (pnH c f n).1.1 = (pnH c f n).1.1 ∧ (pnH c f n).1.2 = (pnH c f n).1.2 ∧ (pnH c f n).2.1 = (pnH c f n).2.1 ∧ (pnH c f n).2.2.1 = (pnH c f n).2.2.1 ∧ (400 : Int) = (400 : Int))
def vc7_15 (c : Cab) (f : Flt) (n : U4) (x : Nat × Int) (y : Nat × Int) := ((1 : Int) = (1 : Int) ∧ (bH c f).1 = (bH c f).1 ∧ sB = sB ∧ x.2 = y.2 ∧ (aH c f).1 = (aH c f).1 ∧ (bH c f).1 = (bH c f).1 ∧ (1 : Int) = (1 : Int) ∧ (↑(List.length (lH c f)) : Int) = (↑(List.length (lH c f)) : Int) ∧ (↑x.1 : Int) + (1 : Int) = (↑y.1 : Int) ∧ f.1 = f.1 ∧ f.2.1 = f.2.1 ∧ f.2.2.1 = f.2.2.1 ∧ f.2.2.2 = f.2.2.2 ∧ lH c f = lH c f ∧ (tH c f n).1 = (tH c f n).1 ∧ (tH c f n).2 = (tH c f n).2 ∧ (pnH c f n).1.1 = (pnH c f n).1.1 ∧ (pnH c f n).1.2 = (pnH c f n).1.2 ∧ (pnH c f n).2.1 = (pnH c f n).2.1 ∧ (pnH c f n).2.2.1 = (pnH c f n).2.2.1 ∧ (400 : Int) = (400 : Int))
def vc7_16 (c : Cab) (f : Flt) (n : U4) := (f.1, f.2.1, f.2.2.1, f.2.2.2)
def vc7_17 (c : Cab) (f : Flt) (n : U4) := ((max (aH c f).2 ((0 : Int) - (aH c f).2), max (bH c f).2 ((0 : Int) - (bH c f).2)), Int.tmod n.1 (31 : Int), (1 : Int) + n.2.1 * (262144 : Int), (400 : Int))
def vc7_18 (c : Cab) (f : Flt) (n : U4) (x : Nat × Int) := (bif bif decide ((tH c f n).1 < (aH c f).1 + (pnH c f n).2.1) then true else decide ((aH c f).1 + (pnH c f n).2.1 + (400 : Int) < (tH c f n).1) then true else decide ((pnH c f n).2.2.1 ≤ max x.2 ((0 : Int) - x.2)))
def vc7_19 (c : Cab) (f : Flt) (n : U4) (x : Nat × Int) := ((-9223372036854775808 : Int) ≤ (↑x.1 : Int) + (1 : Int) ∧ (↑x.1 : Int) + (1 : Int) ≤ (9223372036854775807 : Int))
def vc7_20 (c : Cab) (f : Flt) (n : U4) (x : Nat) := (bif decide ((vc7_1 c f n x).1 * (vc7_0 c f n).2.1 < (vc7_0 c f n).1 * (vc7_1 c f n x).2) then true else decide ((vc7_0 c f n).2.2.1 * (vc7_1 c f n x).2 < (vc7_1 c f n x).1 * (vc7_0 c f n).2.2.2))
def vc7_21 (c : Cab) (f : Flt) (n : U4) := (List.length c.1 ≤ (1000000 : Nat) ∧ List.length c.2.1 ≤ (1000000 : Nat) ∧ List.length c.1 ≤ (1000000 : Nat) ∧ List.length c.2.1 ≤ (1000000 : Nat))
def vc7_22 (c : Cab) (f : Flt) (n : U4) (x : Nat × Int) := (bif bif ByteArray.toList (vc7_2 c f n x).2.1 == ByteArray.toList sA then decide ((vc7_2 c f n x).1 ≤ (tH c f n).1) else false then decide ((vc7_2 c f n x).1 ≤ f.2.2.1 + (400 : Int)) else false)
def vc7_23 (c : Cab) (f : Flt) (n : U4) (x : Nat × Int) := (bif bif ByteArray.toList (vc7_2 c f n x).2.1 == ByteArray.toList sB then decide ((vc7_2 c f n x).1 ≤ (tH c f n).2) else false then decide ((vc7_2 c f n x).1 ≤ f.2.2.1 + (400 : Int)) else false)
def vc7_24 (c : Cab) (f : Flt) (n : U4) (x : Nat) := (bif bif bif bif bif bif placeE (vc7_7 c f n) (f.2.1 + (sumS (List.take x c.1)).2) != (0 : Int) then true else locE (vc7_7 c f n) ((aH c f).1, (aH c f).1) ((bH c f).1, (bH c f).1) != (0 : Int) then true else !((locF (vc7_7 c f n) ((aH c f).1, (aH c f).1) ((bH c f).1, (bH c f).1)).1 == (vc7_1 c f n x).1 && ((locF (vc7_7 c f n) ((aH c f).1, (aH c f).1) ((bH c f).1, (bH c f).1)).2.1 == (vc7_1 c f n x).2 && true) && ((locF (vc7_7 c f n) ((aH c f).1, (aH c f).1) ((bH c f).1, (bH c f).1)).2.2.1 == (vc7_1 c f n x).1 && ((locF (vc7_7 c f n) ((aH c f).1, (aH c f).1) ((bH c f).1, (bH c f).1)).2.2.2 == (vc7_1 c f n x).2 && true) && true)) then true else decide ((vc7_1 c f n x).2 < (1 : Int)) then true else decide ((64 : Int) < (vc7_1 c f n x).2) then true else decide ((vc7_1 c f n x).1 < (0 : Int)) then true else decide ((64000000 : Int) < (vc7_1 c f n x).1))
def vc7_25 (c : Cab) (f : Flt) (n : U4) (x : Nat × Int) := (-((80000000000000 : Int) * (↑x.1 : Int)) ≤ x.2 ∧ x.2 ≤ (80000000000000 : Int) * (↑x.1 : Int))
def vc7_26 (c : Cab) (f : Flt) (n : U4) := ((bH c f).1 - Int.tmod n.2.1 (10 : Int) + Int.tmod n.2.2.2 ((2 : Int) * Int.tmod n.2.1 (10 : Int) + (1 : Int)))
def vc7_27 (c : Cab) (f : Flt) (n : U4) := ((aH c f).1 - Int.tmod n.1 (10 : Int) + Int.tmod n.2.2.1 ((2 : Int) * Int.tmod n.1 (10 : Int) + (1 : Int)))
def vc7_28 (c : Cab) (f : Flt) (n : U4) (x : Nat × Int) := (((0 : Int) ≤ (↑x.1 : Int) ∧ (↑x.1 : Int) < (↑(List.length (lH c f)) : Int)) ∧ (0 : Int) ≤ (↑x.1 : Int) ∧ (↑x.1 : Int) < (↑(List.length (lH c f)) : Int))
def vc7_29 (c : Cab) (f : Flt) (n : U4) (x : Nat × Int) := ((-9223372036854775808 : Int) ≤ x.2 + (vc7_2 c f n x).2.2 ∧ x.2 + (vc7_2 c f n x).2.2 ≤ (9223372036854775807 : Int))
def vc7_30 (c : Cab) (f : Flt) (n : U4) (x : Nat × Int) := ((bif ByteArray.toList (vc7_2 c f n x).2.1 == ByteArray.toList sA then decide ((vc7_2 c f n x).1 ≤ (tH c f n).1) else false) = true → (-9223372036854775808 : Int) ≤ f.2.2.1 + (400 : Int) ∧ f.2.2.1 + (400 : Int) ≤ (9223372036854775807 : Int))
def vc7_31 (c : Cab) (f : Flt) (n : U4) (x : Nat × Int) := ((bif ByteArray.toList (vc7_2 c f n x).2.1 == ByteArray.toList sB then decide ((vc7_2 c f n x).1 ≤ (tH c f n).2) else false) = true → (-9223372036854775808 : Int) ≤ f.2.2.1 + (400 : Int) ∧ f.2.2.1 + (400 : Int) ≤ (9223372036854775807 : Int))
def vc7_32 (c : Cab) (f : Flt) (n : U4) := (bif bif bif decide ((dirF (vc7_7 c f n) (vc7_16 c f n) (ByteArray.mk (Array.mk [(65 : UInt8)]))).1 < (0 : Int)) then true else decide ((200000 : Int) < (dirF (vc7_7 c f n) (vc7_16 c f n) (ByteArray.mk (Array.mk [(65 : UInt8)]))).1) then true else decide ((dirF (vc7_7 c f n) (vc7_16 c f n) (ByteArray.mk (Array.mk [(66 : UInt8)]))).1 < (0 : Int)) then true else decide ((200000 : Int) < (dirF (vc7_7 c f n) (vc7_16 c f n) (ByteArray.mk (Array.mk [(66 : UInt8)]))).1))
def vc7_33 (c : Cab) (f : Flt) (n : U4) (x : Nat × Int) := (x.1 ≤ List.length (lH c f) ∧ (vc7_25 c f n x) ∧ sumAt (lH c f) sA (min (tH c f n).1 (f.2.2.1 + (400 : Int))) = sumGo sA (min (tH c f n).1 (f.2.2.1 + (400 : Int))) (List.drop x.1 (lH c f)) x.2)
def vc7_34 (c : Cab) (f : Flt) (n : U4) (x : Nat × Int) := (x.1 ≤ List.length (lH c f) ∧ (vc7_25 c f n x) ∧ sumAt (lH c f) sB (min (tH c f n).2 (f.2.2.1 + (400 : Int))) = sumGo sB (min (tH c f n).2 (f.2.2.1 + (400 : Int))) (List.drop x.1 (lH c f)) x.2)
def vc7_35 (c : Cab) (f : Flt) (n : U4) := ((clrEE (vc7_7 c f n) (vc7_16 c f n) (vc7_17 c f n) != (0 : Int)) = true → true = true ∧ (clrEE (vc7_7 c f n) (vc7_16 c f n) (vc7_17 c f n) == (32 : Int)) = true)
def vc7_36 (c : Cab) (f : Flt) (n : U4) := (locE (vc7_7 c f n) (max (0 : Int) (max (0 : Int) (vc7_27 c f n) - Int.tmod n.1 (10 : Int)), max (0 : Int) (vc7_27 c f n) + Int.tmod n.1 (10 : Int)) (max (0 : Int) (max (0 : Int) (vc7_26 c f n) - Int.tmod n.2.1 (10 : Int)), max (0 : Int) (vc7_26 c f n) + Int.tmod n.2.1 (10 : Int)) != (0 : Int))
def vc7_37 (c : Cab) (f : Flt) (n : U4) := ((-9223372036854775808 : Int) ≤ (0 : Int) + (1 : Int) ∧ (0 : Int) + (1 : Int) ≤ (9223372036854775807 : Int))
def vc7_38 (c : Cab) (f : Flt) (n : U4) := (((0 : Int) ≤ (0 : Int) + (1 : Int) ∧ (0 : Int) + (1 : Int) < (2 : Int)) ∧ (0 : Int) ≤ (0 : Int) + (1 : Int) ∧ (0 : Int) + (1 : Int) < (2 : Int))
def vc7_39 (c : Cab) (f : Flt) (n : U4) := (bif bif bif decide ((vc7_0 c f n).2.2.2 < (1 : Int)) then true else decide ((128 : Int) < (vc7_0 c f n).2.2.2) then true else decide ((vc7_0 c f n).2.2.1 < (0 : Int)) then true else decide ((128000000 : Int) < (vc7_0 c f n).2.2.1))
def vc7_40 (c : Cab) (f : Flt) (n : U4) := (bif bif bif decide ((vc7_0 c f n).2.1 < (1 : Int)) then true else decide ((128 : Int) < (vc7_0 c f n).2.1) then true else decide ((vc7_0 c f n).1 < (0 : Int)) then true else decide ((128000000 : Int) < (vc7_0 c f n).1))
theorem vc7 : ∀ (c : Cab) (f : Flt) (n : U4), wpFG Tryz.prog G128 (annHo c f n) (fun (x : FuncId) (x_1 : Nat) => none) (Sx.look [((86 : Nat), Tryz.f86)]) Tryz.f7 cHoldsL (c, f, n, ()) = (u8' n.1 → u8' n.2.1 → u8' n.2.2.1 → u8' n.2.2.2 → (((bif false then true else !shortS (vc7_7 c f n)) = false → List.length c.1 ≤ 1000000) ∧ ((bif false then true else !shortS (vc7_7 c f n)) = false → List.length c.2.1 ≤ 1000000)) ∧ ((bif bif false then true else !shortS (vc7_7 c f n) then true else fltS (vc7_7 c f n) (vc7_16 c f n) != 0) = true → true = true ∧ true = true) ∧ ((bif bif false then true else !shortS (vc7_7 c f n) then true else fltS (vc7_7 c f n) (vc7_16 c f n) != 0) = false → (vc7_21 c f n) ∧ (vc7_21 c f n) ∧ (vc7_21 c f n) ∧ (((winS (vc7_7 c f n) (vc7_16 c f n) (500 : Int) != 0) = false → List.length (arrP (vc7_7 c f n) (vc7_16 c f n) 500) ≤ 1000000) ∧ ((winS (vc7_7 c f n) (vc7_16 c f n) (500 : Int) != 0) = false → List.length (arrP (vc7_7 c f n) (vc7_16 c f n) 500) ≤ 1000000)) ∧ ((bif winS (vc7_7 c f n) (vc7_16 c f n) (500 : Int) != 0 then true else arrE (arrP (vc7_7 c f n) (vc7_16 c f n) 500) != 0) = true → true = true ∧ false = true) ∧ ((bif winS (vc7_7 c f n) (vc7_16 c f n) (500 : Int) != 0 then true else arrE (arrP (vc7_7 c f n) (vc7_16 c f n) 500) != 0) = false → ((bif dirEE (vc7_7 c f n) (vc7_16 c f n) (ByteArray.mk (Array.mk [(65 : UInt8)])) != 0 then true else dirEE (vc7_7 c f n) (vc7_16 c f n) (ByteArray.mk (Array.mk [(66 : UInt8)])) != 0) = true → true = true ∧ (bif bif dirEE (vc7_7 c f n) (vc7_16 c f n) (ByteArray.mk (Array.mk [(65 : UInt8)])) == 0 then true else dirEE (vc7_7 c f n) (vc7_16 c f n) (ByteArray.mk (Array.mk [(65 : UInt8)])) == 7 then bif dirEE (vc7_7 c f n) (vc7_16 c f n) (ByteArray.mk (Array.mk [(66 : UInt8)])) == 0 then true else dirEE (vc7_7 c f n) (vc7_16 c f n) (ByteArray.mk (Array.mk [(66 : UInt8)])) == 7 else false) = true) ∧ ((bif dirEE (vc7_7 c f n) (vc7_16 c f n) (ByteArray.mk (Array.mk [(65 : UInt8)])) != 0 then true else dirEE (vc7_7 c f n) (vc7_16 c f n) (ByteArray.mk (Array.mk [(66 : UInt8)])) != 0) = false → ((vc7_32 c f n) = true → true = true ∧ false = true) ∧ ((vc7_32 c f n) = false → ∃ (x : Nat), (f.2.1 = f.2.1 + (sumS (List.take x c.1)).2 ∧ f.1 = f.1 ∧ 0 = (↑x : Int) ∧ c.1 = c.1 ∧ c.2.1 = c.2.1 ∧ c.2.2.1 = c.2.2.1 ∧ c.2.2.2 = c.2.2.2 ∧ f.1 = f.1 ∧ f.2.1 = f.2.1 ∧ f.2.2.1 = f.2.2.1 ∧ f.2.2.2 = f.2.2.2 ∧ n.1 = n.1 ∧ n.2.1 = n.2.1 ∧ n.2.2.1 = n.2.2.1 ∧ n.2.2.2 = n.2.2.2 ∧ (dirF (vc7_7 c f n) (vc7_16 c f n) (ByteArray.mk (Array.mk [(65 : UInt8)]))).1 = (aH c f).1 ∧ (dirF (vc7_7 c f n) (vc7_16 c f n) (ByteArray.mk (Array.mk [(65 : UInt8)]))).2 = (aH c f).2 ∧ (dirF (vc7_7 c f n) (vc7_16 c f n) (ByteArray.mk (Array.mk [(66 : UInt8)]))).1 = (bH c f).1 ∧ (dirF (vc7_7 c f n) (vc7_16 c f n) (ByteArray.mk (Array.mk [(66 : UInt8)]))).2 = (bH c f).2 ∧ arrP (vc7_7 c f n) (vc7_16 c f n) 500 = lH c f) ∧ Int.instLEInt.1 (↑x : Int) f.1 ∧ ∀ (x : Nat), Int.instLEInt.1 (↑x : Int) f.1 → (decide ((↑x : Int) < f.1) = true → ((0 ≤ (↑x : Int) ∧ (↑x : Int) < (↑(List.length c.1) : Int)) ∧ (0 ≤ (↑x : Int) ∧ (↑x : Int) < (↑(List.length c.1) : Int)) ∧ I64 (f.2.1 + (sumS (List.take x c.1)).2 + (List.getD c.1 x (0, 0)).2)) ∧ ((-9223372036854775808) ≤ (↑x : Int) + 1 ∧ (↑x : Int) + (1 : Int) ≤ 9223372036854775807) ∧ ∃ (y : Nat), (f.2.1 + (sumS (List.take x c.1)).2 + (List.getD c.1 x (0, 0)).2 = f.2.1 + (sumS (List.take y c.1)).2 ∧ f.1 = f.1 ∧ (↑x : Int) + 1 = (↑y : Int) ∧ c.1 = c.1 ∧ c.2.1 = c.2.1 ∧ c.2.2.1 = c.2.2.1 ∧ c.2.2.2 = c.2.2.2 ∧ f.1 = f.1 ∧ f.2.1 = f.2.1 ∧ f.2.2.1 = f.2.2.1 ∧ f.2.2.2 = f.2.2.2 ∧ n.1 = n.1 ∧ n.2.1 = n.2.1 ∧ n.2.2.1 = n.2.2.1 ∧ n.2.2.2 = n.2.2.2 ∧ (aH c f).1 = (aH c f).1 ∧ (aH c f).2 = (aH c f).2 ∧ (bH c f).1 = (bH c f).1 ∧ (bH c f).2 = (bH c f).2 ∧ lH c f = lH c f) ∧ Int.instLEInt.1 (↑y : Int) f.1 ∧ Int.toNat f.1 - y < Int.toNat f.1 - x) ∧ (decide ((↑x : Int) < f.1) = false → (vc7_21 c f n) ∧ (vc7_21 c f n) ∧ ((vc7_24 c f n x) = true → true = true ∧ false = true) ∧ ((vc7_24 c f n x) = false → ((I64 n.1) ∧ ((10 : Int) = 0 → False) ∧ (I64 n.2.1) ∧ ((10 : Int) = 0 → False)) ∧ (((-9223372036854775808) ≤ (aH c f).1 - Int.tmod n.1 10 ∧ (aH c f).1 - Int.tmod n.1 (10 : Int) ≤ 9223372036854775807) ∧ (I64 n.2.2.1) ∧ ((-9223372036854775808 : Int) ≤ 2 * Int.tmod n.1 10 ∧ 2 * Int.tmod n.1 (10 : Int) ≤ 9223372036854775807) ∧ ((-9223372036854775808 : Int) ≤ 2 * Int.tmod n.1 (10 : Int) + 1 ∧ 2 * Int.tmod n.1 (10 : Int) + 1 ≤ 9223372036854775807) ∧ (2 * Int.tmod n.1 (10 : Int) + 1 = 0 → False) ∧ (I64 ((aH c f).1 - Int.tmod n.1 10 + Int.tmod n.2.2.1 (2 * Int.tmod n.1 (10 : Int) + 1))) ∧ ((-9223372036854775808) ≤ (bH c f).1 - Int.tmod n.2.1 10 ∧ (bH c f).1 - Int.tmod n.2.1 (10 : Int) ≤ 9223372036854775807) ∧ (I64 n.2.2.2) ∧ ((-9223372036854775808 : Int) ≤ 2 * Int.tmod n.2.1 10 ∧ 2 * Int.tmod n.2.1 (10 : Int) ≤ 9223372036854775807) ∧ ((-9223372036854775808 : Int) ≤ 2 * Int.tmod n.2.1 (10 : Int) + 1 ∧ 2 * Int.tmod n.2.1 (10 : Int) + 1 ≤ 9223372036854775807) ∧ (2 * Int.tmod n.2.1 (10 : Int) + 1 = 0 → False) ∧ I64 ((bH c f).1 - Int.tmod n.2.1 10 + Int.tmod n.2.2.2 (2 * Int.tmod n.2.1 (10 : Int) + 1))) ∧ (List.length c.1 ≤ 1000000 ∧ List.length c.2.1 ≤ 1000000 ∧ ((-9223372036854775808) ≤ max 0 (vc7_27 c f n) - Int.tmod n.1 10 ∧ max 0 (vc7_27 c f n) - Int.tmod n.1 (10 : Int) ≤ 9223372036854775807) ∧ ((-9223372036854775808) ≤ max 0 (vc7_27 c f n) + Int.tmod n.1 10 ∧ max 0 (vc7_27 c f n) + Int.tmod n.1 (10 : Int) ≤ 9223372036854775807) ∧ ((-9223372036854775808) ≤ max 0 (vc7_26 c f n) - Int.tmod n.2.1 10 ∧ max 0 (vc7_26 c f n) - Int.tmod n.2.1 (10 : Int) ≤ 9223372036854775807) ∧ ((-9223372036854775808) ≤ max 0 (vc7_26 c f n) + Int.tmod n.2.1 10 ∧ max 0 (vc7_26 c f n) + Int.tmod n.2.1 (10 : Int) ≤ 9223372036854775807) ∧ List.length c.1 ≤ 1000000 ∧ List.length c.2.1 ≤ 1000000) ∧ ((vc7_36 c f n) = true → true = true ∧ false = true) ∧ ((vc7_36 c f n) = false → (true = true → ((vc7_40 c f n) = true → true = true ∧ false = true) ∧ ((vc7_40 c f n) = false → (vc7_37 c f n) ∧ (true = true → ((vc7_39 c f n) = true → true = true ∧ false = true) ∧ ((vc7_39 c f n) = false → ((-9223372036854775808 : Int) ≤ 0 + (1 : Int) + 1 ∧ (0 : Int) + 1 + (1 : Int) ≤ 9223372036854775807) ∧ (false = true → STUCK 9999 0) ∧ (false = false → (vc7_6 c f n x) ∧ ((vc7_20 c f n x) = true → true = true ∧ false = true) ∧ ((vc7_20 c f n x) = false → (vc7_11 c f n) ∧ (vc7_21 c f n) ∧ (vc7_35 c f n) ∧ ((clrEE (vc7_7 c f n) (vc7_16 c f n) (vc7_17 c f n) != 0) = false → (true = true → (((0 : Int) ≤ 0 ∧ (0 : Int) < 2) ∧ (0 : Int) ≤ 0 ∧ (0 : Int) < 2) ∧ ∃ (x : Nat × Int), (vc7_4 c f n x) ∧ (vc7_33 c f n x) ∧ ∀ (x : Nat × Int), x.1 ≤ List.length (lH c f) ∧ (vc7_25 c f n x) ∧ sumAt (lH c f) sA (min (tH c f n).1 (f.2.2.1 + 400)) = sumGo sA (min (tH c f n).1 (f.2.2.1 + 400)) (List.drop x.1 (lH c f)) x.2 → (decide ((↑x.1 : Int) < (↑(List.length (lH c f)) : Int)) = true → (vc7_28 c f n x) ∧ (vc7_30 c f n x) ∧ ((vc7_22 c f n x) = true → (vc7_29 c f n x) ∧ (vc7_19 c f n x) ∧ ∃ (y : Nat × Int), (vc7_12 c f n x y) ∧ (vc7_9 c f n y) ∧ List.length (lH c f) - y.1 < List.length (lH c f) - x.1) ∧ ((vc7_22 c f n x) = false → (vc7_19 c f n x) ∧ ∃ (y : Nat × Int), (vc7_14 c f n x y) ∧ (vc7_9 c f n y) ∧ List.length (lH c f) - y.1 < List.length (lH c f) - x.1)) ∧ (decide ((↑x.1 : Int) < (↑(List.length (lH c f)) : Int)) = false → (vc7_5 c f n x) ∧ ((vc7_18 c f n x) = true → true = true ∧ false = true) ∧ ((vc7_18 c f n x) = false → (vc7_37 c f n) ∧ (true = true → (vc7_38 c f n) ∧ ∃ (x : Nat × Int), (vc7_8 c f n x) ∧ (vc7_34 c f n x) ∧ ∀ (x : Nat × Int), x.1 ≤ List.length (lH c f) ∧ (vc7_25 c f n x) ∧ sumAt (lH c f) sB (min (tH c f n).2 (f.2.2.1 + 400)) = sumGo sB (min (tH c f n).2 (f.2.2.1 + 400)) (List.drop x.1 (lH c f)) x.2 → (decide ((↑x.1 : Int) < (↑(List.length (lH c f)) : Int)) = true → (vc7_28 c f n x) ∧ (vc7_31 c f n x) ∧ ((vc7_23 c f n x) = true → (vc7_29 c f n x) ∧ (vc7_19 c f n x) ∧ ∃ (y : Nat × Int), (vc7_13 c f n x y) ∧ (vc7_10 c f n y) ∧ List.length (lH c f) - y.1 < List.length (lH c f) - x.1) ∧ ((vc7_23 c f n x) = false → (vc7_19 c f n x) ∧ ∃ (y : Nat × Int), (vc7_15 c f n x y) ∧ (vc7_10 c f n y) ∧ List.length (lH c f) - y.1 < List.length (lH c f) - x.1)) ∧ (vc7_3 c f n x)) ∧ (true = false → true = true ∧ true = true)))) ∧ (true = false → true = true ∧ true = true)))))) ∧ (true = false → (vc7_6 c f n x) ∧ ((vc7_20 c f n x) = true → true = true ∧ false = true) ∧ ((vc7_20 c f n x) = false → (vc7_11 c f n) ∧ (vc7_21 c f n) ∧ (vc7_35 c f n) ∧ ((clrEE (vc7_7 c f n) (vc7_16 c f n) (vc7_17 c f n) != 0) = false → (true = true → (((0 : Int) ≤ 0 ∧ (0 : Int) < 2) ∧ (0 : Int) ≤ 0 ∧ (0 : Int) < 2) ∧ ∃ (x : Nat × Int), (vc7_4 c f n x) ∧ (vc7_33 c f n x) ∧ ∀ (x : Nat × Int), x.1 ≤ List.length (lH c f) ∧ (vc7_25 c f n x) ∧ sumAt (lH c f) sA (min (tH c f n).1 (f.2.2.1 + 400)) = sumGo sA (min (tH c f n).1 (f.2.2.1 + 400)) (List.drop x.1 (lH c f)) x.2 → (decide ((↑x.1 : Int) < (↑(List.length (lH c f)) : Int)) = true → (vc7_28 c f n x) ∧ (vc7_30 c f n x) ∧ ((vc7_22 c f n x) = true → (vc7_29 c f n x) ∧ (vc7_19 c f n x) ∧ ∃ (y : Nat × Int), (vc7_12 c f n x y) ∧ (vc7_9 c f n y) ∧ List.length (lH c f) - y.1 < List.length (lH c f) - x.1) ∧ ((vc7_22 c f n x) = false → (vc7_19 c f n x) ∧ ∃ (y : Nat × Int), (vc7_14 c f n x y) ∧ (vc7_9 c f n y) ∧ List.length (lH c f) - y.1 < List.length (lH c f) - x.1)) ∧ (decide ((↑x.1 : Int) < (↑(List.length (lH c f)) : Int)) = false → (vc7_5 c f n x) ∧ ((vc7_18 c f n x) = true → true = true ∧ false = true) ∧ ((vc7_18 c f n x) = false → (vc7_37 c f n) ∧ (true = true → (vc7_38 c f n) ∧ ∃ (x : Nat × Int), (vc7_8 c f n x) ∧ (vc7_34 c f n x) ∧ ∀ (x : Nat × Int), x.1 ≤ List.length (lH c f) ∧ (vc7_25 c f n x) ∧ sumAt (lH c f) sB (min (tH c f n).2 (f.2.2.1 + 400)) = sumGo sB (min (tH c f n).2 (f.2.2.1 + 400)) (List.drop x.1 (lH c f)) x.2 → (decide ((↑x.1 : Int) < (↑(List.length (lH c f)) : Int)) = true → (vc7_28 c f n x) ∧ (vc7_31 c f n x) ∧ ((vc7_23 c f n x) = true → (vc7_29 c f n x) ∧ (vc7_19 c f n x) ∧ ∃ (y : Nat × Int), (vc7_13 c f n x y) ∧ (vc7_10 c f n y) ∧ List.length (lH c f) - y.1 < List.length (lH c f) - x.1) ∧ ((vc7_23 c f n x) = false → (vc7_19 c f n x) ∧ ∃ (y : Nat × Int), (vc7_15 c f n x y) ∧ (vc7_10 c f n y) ∧ List.length (lH c f) - y.1 < List.length (lH c f) - x.1)) ∧ (vc7_3 c f n x)) ∧ (true = false → true = true ∧ true = true)))) ∧ (true = false → true = true ∧ true = true)))))) ∧ (true = false → (vc7_6 c f n x) ∧ ((vc7_20 c f n x) = true → true = true ∧ false = true) ∧ ((vc7_20 c f n x) = false → (vc7_11 c f n) ∧ (vc7_21 c f n) ∧ (vc7_35 c f n) ∧ ((clrEE (vc7_7 c f n) (vc7_16 c f n) (vc7_17 c f n) != 0) = false → (true = true → (((0 : Int) ≤ 0 ∧ (0 : Int) < 2) ∧ (0 : Int) ≤ 0 ∧ (0 : Int) < 2) ∧ ∃ (x : Nat × Int), (vc7_4 c f n x) ∧ (vc7_33 c f n x) ∧ ∀ (x : Nat × Int), x.1 ≤ List.length (lH c f) ∧ (vc7_25 c f n x) ∧ sumAt (lH c f) sA (min (tH c f n).1 (f.2.2.1 + 400)) = sumGo sA (min (tH c f n).1 (f.2.2.1 + 400)) (List.drop x.1 (lH c f)) x.2 → (decide ((↑x.1 : Int) < (↑(List.length (lH c f)) : Int)) = true → (vc7_28 c f n x) ∧ (vc7_30 c f n x) ∧ ((vc7_22 c f n x) = true → (vc7_29 c f n x) ∧ (vc7_19 c f n x) ∧ ∃ (y : Nat × Int), (vc7_12 c f n x y) ∧ (vc7_9 c f n y) ∧ List.length (lH c f) - y.1 < List.length (lH c f) - x.1) ∧ ((vc7_22 c f n x) = false → (vc7_19 c f n x) ∧ ∃ (y : Nat × Int), (vc7_14 c f n x y) ∧ (vc7_9 c f n y) ∧ List.length (lH c f) - y.1 < List.length (lH c f) - x.1)) ∧ (decide ((↑x.1 : Int) < (↑(List.length (lH c f)) : Int)) = false → (vc7_5 c f n x) ∧ ((vc7_18 c f n x) = true → true = true ∧ false = true) ∧ ((vc7_18 c f n x) = false → (vc7_37 c f n) ∧ (true = true → (vc7_38 c f n) ∧ ∃ (x : Nat × Int), (vc7_8 c f n x) ∧ (vc7_34 c f n x) ∧ ∀ (x : Nat × Int), x.1 ≤ List.length (lH c f) ∧ (vc7_25 c f n x) ∧ sumAt (lH c f) sB (min (tH c f n).2 (f.2.2.1 + 400)) = sumGo sB (min (tH c f n).2 (f.2.2.1 + 400)) (List.drop x.1 (lH c f)) x.2 → (decide ((↑x.1 : Int) < (↑(List.length (lH c f)) : Int)) = true → (vc7_28 c f n x) ∧ (vc7_31 c f n x) ∧ ((vc7_23 c f n x) = true → (vc7_29 c f n x) ∧ (vc7_19 c f n x) ∧ ∃ (y : Nat × Int), (vc7_13 c f n x y) ∧ (vc7_10 c f n y) ∧ List.length (lH c f) - y.1 < List.length (lH c f) - x.1) ∧ ((vc7_23 c f n x) = false → (vc7_19 c f n x) ∧ ∃ (y : Nat × Int), (vc7_15 c f n x y) ∧ (vc7_10 c f n y) ∧ List.length (lH c f) - y.1 < List.length (lH c f) - x.1)) ∧ (vc7_3 c f n x)) ∧ (true = false → true = true ∧ true = true)))) ∧ (true = false → true = true ∧ true = true)))))))))))) := by
 intros
 kernel_rfl
theorem wp7 (c : Cab) (f : Flt) (n : U4) : wpFG Tryz.prog G128 (annHo c f n) (fun _ _ => none) (Sx.look ([(86, Tryz.f86)] : List (Nat × Func))) Tryz.f7 cHoldsL (c, f, n, ()) := by
 refine (vc7 c f n).mpr ?_
 delta vc7_0 vc7_1 vc7_2 vc7_3 vc7_4 vc7_5 vc7_6 vc7_7 vc7_8 vc7_9 vc7_10 vc7_11 vc7_12 vc7_13 vc7_14 vc7_15 vc7_16 vc7_17 vc7_18 vc7_19 vc7_20 vc7_21 vc7_22 vc7_23 vc7_24 vc7_25 vc7_26 vc7_27 vc7_28 vc7_29 vc7_30 vc7_31 vc7_32 vc7_33 vc7_34 vc7_35 vc7_36 vc7_37 vc7_38 vc7_39 vc7_40
 delta I64
 intro u1 u2 u3 u4
 refine ⟨⟨fun h => Nat.le_trans (short_len h).1 (by decide), fun h => Nat.le_trans (short_len h).2 (by decide)⟩, fun _ => by first | rfl | exact ⟨rfl, rfl⟩, fun h => ?_⟩
 have h : (bif bif false then true else !shortS c then true else (fltS c f != 0)) = false := h
 obtain ⟨h, hf⟩ := bnT.1 h
 have hs := short_len h
 have hf : fltS c f = 0 := bne_eq_false_iff_eq.1 hf
 obtain ⟨hc, hv⟩ := fltS_V hf
 have h1 : c.1.length ≤ 1000000 := Nat.le_trans hs.1 (by decide)
 have h2 : c.2.1.length ≤ 1000000 := Nat.le_trans hs.2 (by decide)
 have hw : winS c f 500 = 0 := winS_zero hv (by decide)
 have eA : arrP c f 500 = arrS c f 500 := by unfold arrP; rw [if_pos hw]
 have hl := arrS_len (win := 500) hv
 have hlA : (arrP c f 500).length ≤ 1000 := by rw [eA]; omega
 have hbA : arrB (arrP c f 500) := by rw [eA]; exact (arrS_bd hv).1
 have hA : (arrP c f 500).length ≤ 1000000 := by omega
 have L4 : c.1.length ≤ 1000000 ∧ c.2.1.length ≤ 1000000 ∧ c.1.length ≤ 1000000 ∧ c.2.1.length ≤ 1000000 := ⟨h1, h2, h1, h2⟩
 obtain ⟨p1, p2, p3, p4, p5, p6⟩ := pl_V hv
 have hlL : (lH c f).length ≤ 1000 := hlA
 have ht := hv.2.2.2.1
 refine ⟨L4, L4, L4, ⟨fun _ => hA, fun _ => hA⟩, fun q => ?_, fun _ => ⟨fun q => ?_, fun q => ?_⟩⟩
 ·exfalso
  have q : (bif winS c f 500 != 0 then true else arrE (arrP c f 500) != 0) = true := q
  rw [hw, eA, arr_ok hv] at q
  cases q
 ·have q : (bif dirEE c f sA != 0 then true else dirEE c f sB != 0) = true := q
  have a : dirEE c f sA = 7 ∨ dirEE c f sA = 0 := (dir_V false hv).imp id (fun x => x.1)
  have b : dirEE c f sB = 7 ∨ dirEE c f sB = 0 := (dir_V true hv).imp id (fun x => x.1)
  refine ⟨rfl, ?_⟩
  show (bif bif dirEE c f sA == 0 then true else dirEE c f sA == 7 then bif dirEE c f sB == 0 then true else dirEE c f sB == 7 else false) = true
  rcases a with a | a <;> rcases b with b | b <;> rw [a, b] <;> rfl
 have q : (bif dirEE c f sA != 0 then true else dirEE c f sB != 0) = false := q
 obtain ⟨qa, qb⟩ := bnT.1 q
 have qa : dirEE c f sA = 0 := bne_eq_false_iff_eq.1 qa
 have qb : dirEE c f sB = 0 := bne_eq_false_iff_eq.1 qb
 obtain ⟨dA1, dA2⟩ : dirF c f sA = (tkD c f false, htD c f false) ∧ htD c f false ≠ 0 := by
  rcases dir_V false hv with x | x
  ·have x : dirEE c f sA = 7 := x
   omega
  ·exact x.2
 obtain ⟨dB1, dB2⟩ : dirF c f sB = (tkD c f true, htD c f true) ∧ htD c f true ≠ 0 := by
  rcases dir_V true hv with x | x
  ·have x : dirEE c f sB = 7 := x
   omega
  ·exact x.2
 have a1 : (dirF c f sA).1 = tkD c f false := by rw [dA1]
 have b1 : (dirF c f sB).1 = tkD c f true := by rw [dB1]
 have a2 : (dirF c f sA).2 = htD c f false := by rw [dA1]
 have b2 : (dirF c f sB).2 = htD c f true := by rw [dB1]
 have a3 := ht_bd false hv
 have b3 := ht_bd true hv
 have ha1 : 0 ≤ (aH c f).1 ∧ (aH c f).1 ≤ 200000 := by rw [a1]; omega
 have hb1 : 0 ≤ (bH c f).1 ∧ (bH c f).1 ≤ 200000 := by rw [b1]; omega
 refine ⟨fun q => ?_, fun _ => ⟨(0 : Nat), (by (repeat' apply And.intro) <;> first | rfl | (simp [sumS]; done) | omega), hv.2.1.1, fun (x : Nat) hx => ⟨fun q => ?_, fun q => ?_⟩⟩⟩
 ·exfalso
  have q : (bif bif bif decide ((dirF c f sA).1 < 0) then true else decide (200000 < (dirF c f sA).1) then true else decide ((dirF c f sB).1 < 0) then true else decide (200000 < (dirF c f sB).1)) = true := q
  rw [a1, b1, decide_eq_false (by omega), decide_eq_false (by omega), decide_eq_false (by omega), decide_eq_false (by omega)] at q
  cases q
 ·have q := of_decide_eq_true q
  have hlt : x < c.1.length := by have := hv.2.1.2; omega
  have st := sumS_take hlt
  have sb := sumS_bd (take_V hv.1.2.2.1 x)
  have sl : (c.1.take x).length ≤ 6 := by have := hv.1.2.1; rw [List.length_take]; omega
  have xb := hv.1.2.2.1 _ (getD_mem (d := (0, 0)) hlt)
  have ob := hv.2.2.1
  have ol := hv.1.2.2.1 _ (getD_mem (d := (0, 0)) (l := c.1) (k := f.1.toNat) (by have := hv.2.1; omega))
  have e : (sumS (c.1.take (x + 1))).2 = (sumS (c.1.take x)).2 + (c.1.getD x (0, 0)).2 := by rw [st]
  have i1 : I64 (f.2.1 + (sumS (c.1.take x)).2 + (c.1.getD x (0, 0)).2) := by simp only [I64]; omega
  have kk : 0 ≤ (x : Int) ∧ (x : Int) < c.1.length := by omega
  have e2 : f.2.1 + (sumS (c.1.take x)).2 + (c.1.getD x (0, 0)).2 = f.2.1 + (sumS (c.1.take (x + 1))).2 := by omega
  refine ⟨⟨kk, kk, i1⟩, by have := hv.1.2.1; omega, (x + 1 : Nat), ?_, ?_, ?_⟩
  ·(repeat' apply And.intro) <;> first | rfl | exact e2 | (simp; done)
  ·show ((x + 1 : Nat) : Int) ≤ f.1; omega
  ·show f.1.toNat - (x + 1) < f.1.toNat - x; omega
 have q : ¬ (x : Int) < f.1 := of_decide_eq_false q
 have hx : (x : Int) ≤ f.1 := hx
 have ex : f.2.1 + (sumS (c.1.take x)).2 = placeP c f := by
  unfold placeP posC
  rw [show f.1.toNat = x by omega]; omega
 have pI := pl_in hv
 obtain ⟨l1, l2⟩ := loc_one hv
 have oB : 0 ≤ n.1.tmod 10 ∧ n.1.tmod 10 < 10 := tm_bd u1.1 (by decide)
 have tB : 0 ≤ n.2.1.tmod 10 ∧ n.2.1.tmod 10 < 10 := tm_bd u2.1 (by decide)
 have rB := tm_bd (a := n.2.2.1) (b := 2 * n.1.tmod 10 + 1) u3.1 (by omega)
 have sB' := tm_bd (a := n.2.2.2) (b := 2 * n.2.1.tmod 10 + 1) u4.1 (by omega)
 obtain ⟨g1, g2, g3, g4, g5, g6⟩ := at_bds ha1 oB rB u3
 obtain ⟨k1, k2, k3, k4, k5, k6⟩ := at_bds hb1 tB sB' u4
 obtain ⟨⟨m1, m2⟩, m3⟩ := at_in ha1 oB rB
 obtain ⟨⟨m4, m5⟩, m6⟩ := at_in hb1 tB sB'
 have la : 0 ≤ (AIH c f n).1 ∧ (AIH c f n).1 ≤ tkD c f false ∧ tkD c f false ≤ (AIH c f n).2 ∧ (AIH c f n).2 ≤ 999999999 := by rw [← a1]; exact m3
 have lb : 0 ≤ (BIH c f n).1 ∧ (BIH c f n).1 ≤ tkD c f true ∧ tkD c f true ≤ (BIH c f n).2 ∧ (BIH c f n).2 ≤ 999999999 := by rw [← b1]; exact m6
 obtain ⟨o1, o2⟩ : locE c (AIH c f n) (BIH c f n) = 0 ∧ plOk (pH c f n) (placeF c (placeP c f)) := loc_out hv la lb
 obtain ⟨r1, r2, r3, r4⟩ := pr_bds o2 pI
 obtain ⟨o3, o4, o5, o6⟩ := o2
 have n1 : I64 n.1 := by have := u1; simp only [I64, u8'] at *; omega
 have n2 : I64 n.2.1 := by have := u2; simp only [I64, u8'] at *; omega
 have n3 : I64 (n.2.1 * 262144) ∧ I64 (1 + n.2.1 * 262144) := by have := u2; simp only [I64, u8'] at *; omega
 have n4 : I64 (0 - (aH c f).2) ∧ I64 (0 - (bH c f).2) := by rw [a2, b2]; simp only [I64]; omega
 have w1 : 0 ≤ n.1.tmod 31 ∧ n.1.tmod 31 < 31 := tm_bd u1.1 (by decide)
 refine ⟨L4, L4, fun q => ?_, fun _ => ⟨⟨n1, by decide, n2, by decide⟩, ⟨g1, g2, g3, g4, g5, g6, k1, k2, k3, k4, k5, k6⟩, ⟨h1, h2, m1, m2, m4, m5, h1, h2⟩, fun q => ?_, fun _ => ⟨fun _ => ⟨fun q => ?_, fun _ => ⟨by decide, fun _ => ⟨fun q => ?_, fun _ => ⟨by decide, fun q => (by cases q), fun _ => ⟨⟨?_, ?_, fun _ => ?_, fun _ => ?_⟩, fun q => ?_, fun _ => ⟨⟨n4.1, n4.2, n1, by decide, n2, n3.1, n3.2⟩, L4, ?_⟩⟩⟩⟩, fun q => (by cases q)⟩⟩, fun q => (by cases q)⟩⟩⟩
 ·exfalso
  have q : (bif bif bif bif bif bif placeE c (f.2.1 + (sumS (List.take x c.1)).2) != 0 then true else locE c ((aH c f).1, (aH c f).1) ((bH c f).1, (bH c f).1) != 0 then true else !((locF c ((aH c f).1, (aH c f).1) ((bH c f).1, (bH c f).1)).1 == (placeF c (f.2.1 + (sumS (List.take x c.1)).2)).1 && ((locF c ((aH c f).1, (aH c f).1) ((bH c f).1, (bH c f).1)).2.1 == (placeF c (f.2.1 + (sumS (List.take x c.1)).2)).2 && true) && ((locF c ((aH c f).1, (aH c f).1) ((bH c f).1, (bH c f).1)).2.2.1 == (placeF c (f.2.1 + (sumS (List.take x c.1)).2)).1 && ((locF c ((aH c f).1, (aH c f).1) ((bH c f).1, (bH c f).1)).2.2.2 == (placeF c (f.2.1 + (sumS (List.take x c.1)).2)).2 && true) && true)) then true else decide ((placeF c (f.2.1 + (sumS (List.take x c.1)).2)).2 < 1) then true else decide (64 < (placeF c (f.2.1 + (sumS (List.take x c.1)).2)).2) then true else decide ((placeF c (f.2.1 + (sumS (List.take x c.1)).2)).1 < 0) then true else decide (64000000 < (placeF c (f.2.1 + (sumS (List.take x c.1)).2)).1)) = true := q
  rw [ex, a1, b1, p5, l1, l2, decide_eq_false (by omega), decide_eq_false (by omega), decide_eq_false (by omega), decide_eq_false (by omega)] at q
  simp [rr] at q
 ·exfalso
  have q : (locE c (AIH c f n) (BIH c f n) != 0) = true := q
  rw [o1] at q; cases q
 ·exfalso
  have q : (bif bif bif decide ((pH c f n).2.1 < 1) then true else decide (128 < (pH c f n).2.1) then true else decide ((pH c f n).1 < 0) then true else decide (128000000 < (pH c f n).1)) = true := q
  rw [decide_eq_false (by omega), decide_eq_false (by omega), decide_eq_false (by omega), decide_eq_false (by omega)] at q
  cases q
 ·exfalso
  have q : (bif bif bif decide ((pH c f n).2.2.2 < 1) then true else decide (128 < (pH c f n).2.2.2) then true else decide ((pH c f n).2.2.1 < 0) then true else decide (128000000 < (pH c f n).2.2.1)) = true := q
  rw [decide_eq_false (by omega), decide_eq_false (by omega), decide_eq_false (by omega), decide_eq_false (by omega)] at q
  cases q
 ·rw [← ex] at r1; exact r1
 ·rw [← ex] at r2; exact r2
 ·rw [← ex] at r3; exact r3
 ·rw [← ex] at r4; exact r4
 ·exfalso
  have q : (bif decide ((placeF c (f.2.1 + (sumS (List.take x c.1)).2)).1 * (pH c f n).2.1 < (pH c f n).1 * (placeF c (f.2.1 + (sumS (List.take x c.1)).2)).2) then true else decide ((pH c f n).2.2.1 * (placeF c (f.2.1 + (sumS (List.take x c.1)).2)).2 < (placeF c (f.2.1 + (sumS (List.take x c.1)).2)).1 * (pH c f n).2.2.2)) = true := q
  rw [ex, decide_eq_false (Int.not_lt.2 o5), decide_eq_false (Int.not_lt.2 o6)] at q
  cases q
 have eP : pnH c f n = ((mx (htD c f false), mx (htD c f true)), n.1.tmod 31, 1 + n.2.1 * 262144, 400) := by
  show ((max (aH c f).2 (0 - (aH c f).2), max (bH c f).2 (0 - (bH c f).2)), n.1.tmod 31, 1 + n.2.1 * 262144, 400) = _
  rw [a2, b2]
 have cl := clr_V (w := n.1.tmod 31) (lim := 1 + n.2.1 * 262144) hv dA2 dB2 (by omega) (by have := u2; simp only [u8'] at this; omega)
 rw [← eP] at cl
 rcases cl with cl | ⟨cl, clA, clB⟩
 ·refine ⟨fun _ => ⟨rfl, ?_⟩, fun q => ?_⟩
  ·show (clrEE c f (pnH c f n) == 32) = true
   rw [cl]; rfl
  ·exfalso
   have q : (clrEE c f (pnH c f n) != 0) = false := q
   rw [cl] at q; cases q
 obtain ⟨A1, A2, A3⟩ := clA
 obtain ⟨B1, B2, B3⟩ := clB
 rw [← a1] at A1 A2
 rw [← b1] at B1 B2
 rw [← eA] at A3 B3
 have A3 : max (sumAt (lH c f) sA (min (tH c f n).1 (f.2.2.1 + 400))) (0 - sumAt (lH c f) sA (min (tH c f n).1 (f.2.2.1 + 400))) < 1 + n.2.1 * 262144 := A3
 have B3 : max (sumAt (lH c f) sB (min (tH c f n).2 (f.2.2.1 + 400))) (0 - sumAt (lH c f) sB (min (tH c f n).2 (f.2.2.1 + 400))) < 1 + n.2.1 * 262144 := B3
 have iA : I64 ((aH c f).1 + n.1.tmod 31) ∧ I64 ((aH c f).1 + n.1.tmod 31 + 400) := by simp only [I64]; omega
 have iB : I64 ((bH c f).1 + n.1.tmod 31) ∧ I64 ((bH c f).1 + n.1.tmod 31 + 400) := by simp only [I64]; omega
 have iL : I64 (f.2.2.1 + 400) := by simp only [I64]; omega
 refine ⟨fun q => ?_, fun _ => ⟨fun _ => ⟨by decide, ((0 : Nat), (0 : Int)), (by (repeat' apply And.intro) <;> first | rfl | (simp [sumS]; done) | omega), ⟨Nat.zero_le _, ⟨by decide, by decide⟩, rfl⟩, fun p hp => ⟨fun q => ?_, fun q => ?_⟩⟩, fun q => (by cases q)⟩⟩
 ·exfalso
  have q : (clrEE c f (pnH c f n) != 0) = true := q
  rw [cl] at q; cases q
 ·have hp : invH (lH c f) sA (tH c f n).1 (f.2.2.1 + 400) p := hp
  have hlt : p.1 < (lH c f).length := by
   have q : (p.1 : Int) < (lH c f).length := of_decide_eq_true q
   omega
  obtain ⟨s1, s2, s3⟩ := hold_step hbA hlA hp hlt
  have kk : 0 ≤ (p.1 : Int) ∧ (p.1 : Int) < (lH c f).length := by omega
  have kp : I64 ((p.1 : Int) + 1) := by simp only [I64]; omega
  refine ⟨⟨kk, kk⟩, fun _ => iL, fun q => ?_, fun q => ?_⟩
  ·obtain ⟨t1, t2⟩ := s2 q
   exact ⟨⟨Int.le_trans (by decide) t2.1, Int.le_trans t2.2 (by decide)⟩, kp, (p.1 + 1, p.2 + ((lH c f).getD p.1 dA).2.2), (by (repeat' apply And.intro) <;> first | rfl | (simp [sumS]; done) | omega), t1, by show (lH c f).length - (p.1 + 1) < (lH c f).length - p.1; omega⟩
  ·exact ⟨kp, (p.1 + 1, p.2), (by (repeat' apply And.intro) <;> first | rfl | (simp [sumS]; done) | omega), s3 q, by show (lH c f).length - (p.1 + 1) < (lH c f).length - p.1; omega⟩
 have hge : ¬ p.1 < (lH c f).length := by
  have q : ¬ (p.1 : Int) < (lH c f).length := of_decide_eq_false q
  omega
 obtain ⟨E1, E2⟩ := hold_end hlA (show invH (lH c f) sA (tH c f n).1 (f.2.2.1 + 400) p from hp) hge
 have iE : I64 (0 - p.2) := by simp only [I64]; omega
 refine ⟨⟨iA.1, fun _ => iA.1, fun _ => iA.2, fun _ => iE⟩, fun q => ?_, fun _ => ⟨by decide, fun _ => ⟨by decide, ((0 : Nat), (0 : Int)), (by (repeat' apply And.intro) <;> first | rfl | (simp [sumS]; done) | omega), ⟨Nat.zero_le _, ⟨by decide, by decide⟩, rfl⟩, fun p hp => ⟨fun q => ?_, fun q => ?_⟩⟩, fun q => (by cases q)⟩⟩
 ·exfalso
  have q : (bif bif decide ((tH c f n).1 < (aH c f).1 + n.1.tmod 31) then true else decide ((aH c f).1 + n.1.tmod 31 + 400 < (tH c f n).1) then true else decide (1 + n.2.1 * 262144 ≤ max p.2 (0 - p.2))) = true := q
  rw [E1, decide_eq_false (Int.not_lt.2 A1), decide_eq_false (Int.not_lt.2 A2), decide_eq_false (Int.not_le.2 A3)] at q
  cases q
 ·have hp : invH (lH c f) sB (tH c f n).2 (f.2.2.1 + 400) p := hp
  have hlt : p.1 < (lH c f).length := by
   have q : (p.1 : Int) < (lH c f).length := of_decide_eq_true q
   omega
  obtain ⟨s1, s2, s3⟩ := hold_step hbA hlA hp hlt
  have kk : 0 ≤ (p.1 : Int) ∧ (p.1 : Int) < (lH c f).length := by omega
  have kp : I64 ((p.1 : Int) + 1) := by simp only [I64]; omega
  refine ⟨⟨kk, kk⟩, fun _ => iL, fun q => ?_, fun q => ?_⟩
  ·obtain ⟨t1, t2⟩ := s2 q
   exact ⟨⟨Int.le_trans (by decide) t2.1, Int.le_trans t2.2 (by decide)⟩, kp, (p.1 + 1, p.2 + ((lH c f).getD p.1 dA).2.2), (by (repeat' apply And.intro) <;> first | rfl | (simp [sumS]; done) | omega), t1, by show (lH c f).length - (p.1 + 1) < (lH c f).length - p.1; omega⟩
  ·exact ⟨kp, (p.1 + 1, p.2), (by (repeat' apply And.intro) <;> first | rfl | (simp [sumS]; done) | omega), s3 q, by show (lH c f).length - (p.1 + 1) < (lH c f).length - p.1; omega⟩
 have hge : ¬ p.1 < (lH c f).length := by
  have q : ¬ (p.1 : Int) < (lH c f).length := of_decide_eq_false q
  omega
 obtain ⟨E1, E2⟩ := hold_end hlA (show invH (lH c f) sB (tH c f n).2 (f.2.2.1 + 400) p from hp) hge
 have iE : I64 (0 - p.2) := by simp only [I64]; omega
 refine ⟨⟨iB.1, fun _ => iB.1, fun _ => iB.2, fun _ => iE⟩, fun q => ?_, fun _ => ⟨by decide, fun q => (by cases q), fun _ => by first | rfl | exact ⟨rfl, rfl⟩⟩⟩
 exfalso
 have q : (bif bif decide ((tH c f n).2 < (bH c f).1 + n.1.tmod 31) then true else decide ((bH c f).1 + n.1.tmod 31 + 400 < (tH c f n).2) then true else decide (1 + n.2.1 * 262144 ≤ max p.2 (0 - p.2))) = true := q
 rw [E1, decide_eq_false (Int.not_lt.2 B1), decide_eq_false (Int.not_lt.2 B2), decide_eq_false (Int.not_le.2 B3)] at q
 cases q
theorem ok7 : Ok Tryz.prog 7 cHoldsL := ok_of_wpG mixed g128 (by kernel_rfl) (by kernel_rfl) (lib_ok (List.forall_mem_cons.2 ⟨by kernel_rfl, by simp⟩)) (fun xx => annHo xx.1 xx.2.1 xx.2.2.1) (fun xx => fun _ _ => none) fun xx => wp7 xx.1 xx.2.1 xx.2.2.1
end Go.Proofs.YtcledkhhecdppaaGreatDoor
