/- The law walked: part of the proof. -/
import Derived.Test.YtacaadhlobbemaaGreatDoorFC
set_option linter.unusedSimpArgs false
set_option linter.unusedVariables false
set_option maxRecDepth 20000
namespace Go.Proofs.YtacaadhlobbemaaGreatDoor
open Go.Sx
set_option maxHeartbeats 20000000
abbrev s8 : Sch := .prod (.int .u8) (.int .u8)
def u8 (n : Int) : Prop := 0 ≤ n ∧ n ≤ 255
def voltS (l : List (List (Int × Int))) (n : Int × Int) : Int := (comS l).1 + (n.1 * ((comS l).2 - (comS l).1 + 1)).tdiv 256
theorem asI_bd {k : Nat} {s : Int × Int} (h : asI k s) (hk : k ≤ 3) : (0 < s.2 ∧ s.2 ≤ 216000) ∧ (-(3000 * s.2) ≤ s.1 ∧ s.1 ≤ 3000 * s.2) := by
  obtain ⟨⟨s1, s2⟩, s3, s4⟩ := h
  have w := pow60 hk
  have m1 := Int.mul_le_mul_of_nonneg_right (show 1000 * (k : Int) ≤ 3000 by omega) (Int.le_of_lt s1)
  exact ⟨⟨s1, by omega⟩, by omega, by omega⟩
def cFlowShared : Con := { args := [aLL 22 132, aI, .val true s8], ress := [Bo], owns := [], pre := fun (l, _, n, _) => [l.length ≤ 9223372036854775807, u8 n.1, u8 n.2], spec := fun _ => (true, ()) }
abbrev annShared (l : List (List (Int × Int))) (load : Int) (n : Int × Int) : Nat → Option Ann := fun id =>
  if id = 0 then some { X := Nat, σ := fun k => ⟨2, [(0, .one (.sl 0)), (1, .one (.int .i64 load)), (5, .one (.ptr 1 0)), (55, .one (.sl 0)), (56, .one (.int .i64 l.length)), (57, .one (.int .i64 k))], [(0, .imm 22 (.list 132 sPt) l), (1, .box 130 [.int .u8 n.1, .int .u8 n.2])]⟩, inv := fun k => k ≤ l.length ∧ thin (l.take k), mu := fun k => l.length - k }
  else if id = 2 then some { X := Nat × Int × Int, σ := fun (k, a, b) => ⟨4, [(0, .one (.sl 0)), (1, .one (.int .i64 load)), (5, .one (.ptr 1 0)), (9, .one (.int .i64 (comS l).1)), (10, .one (.int .i64 (comS l).2)), (11, .one (.ptr 2 0)), (13, .one (.sl 3)), (15, .one (.int .i64 a)), (16, .one (.int .i64 b)), (17, .one (.int .i64 ((xCrossS l load).1.1.tdiv (xCrossS l load).1.2))), (136, .one (.sl 3)), (137, .one (.int .i64 (xShareS l load).1.length)), (138, .one (.int .i64 k))], [(0, .imm 22 (.list 132 sPt) l), (1, .box 130 [.int .u8 n.1, .int .u8 n.2]), (2, .box 25 [.int .i64 (xCrossS l load).1.1, .int .i64 (xCrossS l load).1.2]), (3, .own 25 sPt (xShareS l load).1)]⟩, inv := fun (k, a, b) => k ≤ l.length ∧ ∀ u p, crossS l load = some (u, p) → shI p k (a, b) ∧ shGo u p l (0, 1) = shGo u p (l.drop k) (a, b), mu := fun (k, _, _) => l.length - k }
  else if id = 4 then some { X := Nat × Int × Int, σ := fun (k, a, b) => ⟨2, [(0, .one (.sl 0)), (5, .one (.ptr 1 0)), (28, .one (.int .i64 (voltS l n))), (29, .one (.int .i64 a)), (30, .one (.int .i64 b)), (274, .one (.int .i64 l.length)), (275, .one (.int .i64 k))], [(0, .imm 22 (.list 132 sPt) l), (1, .box 130 [.int .u8 n.1, .int .u8 n.2])]⟩, inv := fun (k, a, b) => k ≤ l.length ∧ asI k (a, b) ∧ aSumS l (voltS l n) = aSumGo (voltS l n) (l.drop k) (a, b), mu := fun (k, _, _) => l.length - k }
  else none
theorem vc9 : ∀ (l : List (List (Int × Int))) (load : Int) (n : Int × Int), wpF Tryz.prog G140 (annShared l load n) Tryz.f9 cFlowShared (l, load, n, ()) = (List.length l ≤ (9223372036854775807 : Nat) → u8 n.fst → u8 n.snd → (List.length l ≤ (9223372036854775807 : Nat) ∧ ((!shortL l) = false → List.length l ≤ (1000000 : Nat))) ∧ ((bif bif !shortL l then true else linesS l != (0 : Int) then true else withinS load (-3000 : Int) (3000 : Int) != (0 : Int)) = true → true = true) ∧ ((bif bif !shortL l then true else linesS l != (0 : Int) then true else withinS load (-3000 : Int) (3000 : Int) != (0 : Int)) = false → ∃ (x : Nat), (load = load ∧ (↑(List.length l) : Int) = (↑(List.length l) : Int) ∧ (0 : Int) = (↑x : Int) ∧ l = l ∧ n.fst = n.fst ∧ n.snd = n.snd) ∧ (x ≤ List.length l ∧ thin (List.take x l)) ∧ ∀ (x : Nat), x ≤ List.length l ∧ thin (List.take x l) → (decide ((↑x : Int) < (↑(List.length l) : Int)) = true → (((0 : Int) ≤ (↑x : Int) ∧ (↑x : Int) < (↑(List.length l) : Int)) ∧ (0 : Int) ≤ (↑x : Int) ∧ (↑x : Int) < (↑(List.length l) : Int)) ∧ (((-9223372036854775808 : Int) ≤ (↑(List.length (List.getD l x [])) : Int) - (1 : Int) ∧ (↑(List.length (List.getD l x [])) : Int) - (1 : Int) ≤ (9223372036854775807 : Int)) ∧ ((0 : Int) ≤ (↑(List.length (List.getD l x [])) : Int) - (1 : Int) ∧ (↑(List.length (List.getD l x [])) : Int) - (1 : Int) < (↑(List.length (List.getD l x [])) : Int)) ∧ (0 : Int) ≤ (↑(List.length (List.getD l x [])) : Int) - (1 : Int) ∧ (↑(List.length (List.getD l x [])) : Int) - (1 : Int) < (↑(List.length (List.getD l x [])) : Int)) ∧ (decide ((60 : Int) < (List.getD (List.getD l x []) (Int.toNat ((↑(List.length (List.getD l x [])) : Int) - (1 : Int))) ((0 : Int), (0 : Int))).fst) = true → true = true) ∧ (decide ((60 : Int) < (List.getD (List.getD l x []) (Int.toNat ((↑(List.length (List.getD l x [])) : Int) - (1 : Int))) ((0 : Int), (0 : Int))).fst) = false → ((-9223372036854775808 : Int) ≤ (↑x : Int) + (1 : Int) ∧ (↑x : Int) + (1 : Int) ≤ (9223372036854775807 : Int)) ∧ ∃ (y : Nat), (load = load ∧ (↑(List.length l) : Int) = (↑(List.length l) : Int) ∧ (↑x : Int) + (1 : Int) = (↑y : Int) ∧ l = l ∧ n.fst = n.fst ∧ n.snd = n.snd) ∧ (y ≤ List.length l ∧ thin (List.take y l)) ∧ List.length l - y < List.length l - x)) ∧ (decide ((↑x : Int) < (↑(List.length l) : Int)) = false → (List.length l ≤ (1000000 : Nat) ∧ ∀ (x : List (Int × Int)), x ∈ l → (0 : Nat) < List.length x ∧ List.length x ≤ (1000000 : Nat)) ∧ (List.length l ≤ (1000000 : Nat) ∧ (∀ (x : List (Int × Int)), x ∈ l → List.length x ≤ (1000000 : Nat)) ∧ List.length l ≤ (1000000 : Nat)) ∧ (List.length l ≤ (1000000 : Nat) ∧ (∀ (x : List (Int × Int)), x ∈ l → List.length x ≤ (1000000 : Nat)) ∧ List.length l ≤ (1000000 : Nat)) ∧ ((bif (xCrossS l load).snd != (xShareS l load).snd then true else bif (xCrossS l load).snd != (0 : Int) then (xCrossS l load).snd != (7 : Int) else false) = true → false = true) ∧ ((bif (xCrossS l load).snd != (xShareS l load).snd then true else bif (xCrossS l load).snd != (0 : Int) then (xCrossS l load).snd != (7 : Int) else false) = false → (((xCrossS l load).snd == (0 : Int)) = true → (((bif !fitsS ((xCrossS l load).fst.fst, (xCrossS l load).fst.snd) then true else (↑(List.length (xShareS l load).fst) : Int) != (↑(List.length l) : Int)) = false → (-9223372036854775808 : Int) ≤ (comGo l ((0 : Int), (1000 : Int))).fst * (xCrossS l load).fst.snd ∧ (comGo l ((0 : Int), (1000 : Int))).fst * (xCrossS l load).fst.snd ≤ (9223372036854775807 : Int)) ∧ ((bif bif !fitsS ((xCrossS l load).fst.fst, (xCrossS l load).fst.snd) then true else (↑(List.length (xShareS l load).fst) : Int) != (↑(List.length l) : Int) then true else decide ((xCrossS l load).fst.fst < (comGo l ((0 : Int), (1000 : Int))).fst * (xCrossS l load).fst.snd)) = false → (-9223372036854775808 : Int) ≤ (comGo l ((0 : Int), (1000 : Int))).snd * (xCrossS l load).fst.snd ∧ (comGo l ((0 : Int), (1000 : Int))).snd * (xCrossS l load).fst.snd ≤ (9223372036854775807 : Int))) ∧ ((bif bif bif !fitsS ((xCrossS l load).fst.fst, (xCrossS l load).fst.snd) then true else (↑(List.length (xShareS l load).fst) : Int) != (↑(List.length l) : Int) then true else decide ((xCrossS l load).fst.fst < (comGo l ((0 : Int), (1000 : Int))).fst * (xCrossS l load).fst.snd) then true else decide ((comGo l ((0 : Int), (1000 : Int))).snd * (xCrossS l load).fst.snd < (xCrossS l load).fst.fst)) = true → false = true) ∧ ((bif bif bif !fitsS ((xCrossS l load).fst.fst, (xCrossS l load).fst.snd) then true else (↑(List.length (xShareS l load).fst) : Int) != (↑(List.length l) : Int) then true else decide ((xCrossS l load).fst.fst < (comGo l ((0 : Int), (1000 : Int))).fst * (xCrossS l load).fst.snd) then true else decide ((comGo l ((0 : Int), (1000 : Int))).snd * (xCrossS l load).fst.snd < (xCrossS l load).fst.fst)) = false → (((xCrossS l load).fst.snd = (0 : Int) → False) ∧ (-9223372036854775808 : Int) ≤ Int.tdiv (xCrossS l load).fst.fst (xCrossS l load).fst.snd ∧ Int.tdiv (xCrossS l load).fst.fst (xCrossS l load).fst.snd ≤ (9223372036854775807 : Int)) ∧ ∃ (x : Nat × Int × Int), (load = load ∧ (comGo l ((0 : Int), (1000 : Int))).fst = (comS l).fst ∧ (comGo l ((0 : Int), (1000 : Int))).snd = (comS l).snd ∧ (0 : Int) = x.2.1 ∧ (1 : Int) = x.2.2 ∧ Int.tdiv (xCrossS l load).fst.fst (xCrossS l load).fst.snd = Int.tdiv (xCrossS l load).fst.fst (xCrossS l load).fst.snd ∧ (↑(List.length (xShareS l load).fst) : Int) = (↑(List.length (xShareS l load).fst) : Int) ∧ (0 : Int) = (↑x.1 : Int) ∧ l = l ∧ n.fst = n.fst ∧ n.snd = n.snd ∧ (xCrossS l load).fst.fst = (xCrossS l load).fst.fst ∧ (xCrossS l load).fst.snd = (xCrossS l load).fst.snd ∧ (xShareS l load).1 = (xShareS l load).fst) ∧ (x.fst ≤ List.length l ∧ ∀ (u : Int) (p : Int × Int), crossS l load = some (u, p) → shI p x.fst (x.2.fst, x.2.snd) ∧ shGo u p l ((0 : Int), (1 : Int)) = shGo u p (List.drop x.fst l) (x.2.fst, x.2.snd)) ∧ ∀ (x : Nat × Int × Int), (x.fst ≤ List.length l ∧ ∀ (u : Int) (p : Int × Int), crossS l load = some (u, p) → shI p x.fst (x.2.fst, x.2.snd) ∧ shGo u p l ((0 : Int), (1 : Int)) = shGo u p (List.drop x.fst l) (x.2.fst, x.2.snd)) → (decide ((↑x.1 : Int) < (↑(List.length (xShareS l load).fst) : Int)) = true → (((0 : Int) ≤ (↑x.1 : Int) ∧ (↑x.1 : Int) < (↑(List.length (xShareS l load).fst) : Int)) ∧ (0 : Int) ≤ (↑x.1 : Int) ∧ (↑x.1 : Int) < (↑(List.length (xShareS l load).fst) : Int)) ∧ ((!fitsS ((List.getD (xShareS l load).fst x.1 ((0 : Int), (0 : Int))).fst, (List.getD (xShareS l load).fst x.1 ((0 : Int), (0 : Int))).snd)) = true → false = true) ∧ ((!fitsS ((List.getD (xShareS l load).fst x.1 ((0 : Int), (0 : Int))).fst, (List.getD (xShareS l load).fst x.1 ((0 : Int), (0 : Int))).snd)) = false → (((0 : Int) ≤ (↑x.1 : Int) ∧ (↑x.1 : Int) < (↑(List.length l) : Int)) ∧ ((0 : Int) ≤ (↑x.1 : Int) ∧ (↑x.1 : Int) < (↑(List.length l) : Int)) ∧ List.length (List.getD l x.1 []) ≤ (1000000 : Nat)) ∧ (((0 : Int) ≤ (↑x.1 : Int) ∧ (↑x.1 : Int) < (↑(List.length l) : Int)) ∧ ((0 : Int) ≤ (↑x.1 : Int) ∧ (↑x.1 : Int) < (↑(List.length l) : Int)) ∧ List.length (List.getD l x.1 []) ≤ (1000000 : Nat) ∧ (-9223372036854775808 : Int) ≤ Int.tdiv (xCrossS l load).fst.fst (xCrossS l load).fst.snd + (1 : Int) ∧ Int.tdiv (xCrossS l load).fst.fst (xCrossS l load).fst.snd + (1 : Int) ≤ (9223372036854775807 : Int)) ∧ (((-9223372036854775808 : Int) ≤ (xAtS (List.getD l x.1 []) (Int.tdiv (xCrossS l load).fst.fst (xCrossS l load).fst.snd)).snd + (xAtS (List.getD l x.1 []) (min (comS l).snd (Int.tdiv (xCrossS l load).fst.fst (xCrossS l load).fst.snd + (1 : Int)))).snd ∧ (xAtS (List.getD l x.1 []) (Int.tdiv (xCrossS l load).fst.fst (xCrossS l load).fst.snd)).snd + (xAtS (List.getD l x.1 []) (min (comS l).snd (Int.tdiv (xCrossS l load).fst.fst (xCrossS l load).fst.snd + (1 : Int)))).snd ≤ (9223372036854775807 : Int)) ∧ ((bif bif (xAtS (List.getD l x.1 []) (Int.tdiv (xCrossS l load).fst.fst (xCrossS l load).fst.snd)).snd + (xAtS (List.getD l x.1 []) (min (comS l).snd (Int.tdiv (xCrossS l load).fst.fst (xCrossS l load).fst.snd + (1 : Int)))).snd != (0 : Int) then true else !fitsS ((xAtS (List.getD l x.1 []) (Int.tdiv (xCrossS l load).fst.fst (xCrossS l load).fst.snd)).fst.fst, (xAtS (List.getD l x.1 []) (Int.tdiv (xCrossS l load).fst.fst (xCrossS l load).fst.snd)).fst.snd) then true else !fitsS ((xAtS (List.getD l x.1 []) (min (comS l).snd (Int.tdiv (xCrossS l load).fst.fst (xCrossS l load).fst.snd + (1 : Int)))).fst.fst, (xAtS (List.getD l x.1 []) (min (comS l).snd (Int.tdiv (xCrossS l load).fst.fst (xCrossS l load).fst.snd + (1 : Int)))).fst.snd)) = false → fitP ((xAtS (List.getD l x.1 []) (Int.tdiv (xCrossS l load).fst.fst (xCrossS l load).fst.snd)).fst.fst, (xAtS (List.getD l x.1 []) (Int.tdiv (xCrossS l load).fst.fst (xCrossS l load).fst.snd)).fst.snd)) ∧ ((bif bif (xAtS (List.getD l x.1 []) (Int.tdiv (xCrossS l load).fst.fst (xCrossS l load).fst.snd)).snd + (xAtS (List.getD l x.1 []) (min (comS l).snd (Int.tdiv (xCrossS l load).fst.fst (xCrossS l load).fst.snd + (1 : Int)))).snd != (0 : Int) then true else !fitsS ((xAtS (List.getD l x.1 []) (Int.tdiv (xCrossS l load).fst.fst (xCrossS l load).fst.snd)).fst.fst, (xAtS (List.getD l x.1 []) (Int.tdiv (xCrossS l load).fst.fst (xCrossS l load).fst.snd)).fst.snd) then true else !fitsS ((xAtS (List.getD l x.1 []) (min (comS l).snd (Int.tdiv (xCrossS l load).fst.fst (xCrossS l load).fst.snd + (1 : Int)))).fst.fst, (xAtS (List.getD l x.1 []) (min (comS l).snd (Int.tdiv (xCrossS l load).fst.fst (xCrossS l load).fst.snd + (1 : Int)))).fst.snd)) = false → fitP ((List.getD (xShareS l load).fst x.1 ((0 : Int), (0 : Int))).fst, (List.getD (xShareS l load).fst x.1 ((0 : Int), (0 : Int))).snd)) ∧ ((bif bif bif (xAtS (List.getD l x.1 []) (Int.tdiv (xCrossS l load).fst.fst (xCrossS l load).fst.snd)).snd + (xAtS (List.getD l x.1 []) (min (comS l).snd (Int.tdiv (xCrossS l load).fst.fst (xCrossS l load).fst.snd + (1 : Int)))).snd != (0 : Int) then true else !fitsS ((xAtS (List.getD l x.1 []) (Int.tdiv (xCrossS l load).fst.fst (xCrossS l load).fst.snd)).fst.fst, (xAtS (List.getD l x.1 []) (Int.tdiv (xCrossS l load).fst.fst (xCrossS l load).fst.snd)).fst.snd) then true else !fitsS ((xAtS (List.getD l x.1 []) (min (comS l).snd (Int.tdiv (xCrossS l load).fst.fst (xCrossS l load).fst.snd + (1 : Int)))).fst.fst, (xAtS (List.getD l x.1 []) (min (comS l).snd (Int.tdiv (xCrossS l load).fst.fst (xCrossS l load).fst.snd + (1 : Int)))).fst.snd) then true else decide ((xAtS (List.getD l x.1 []) (Int.tdiv (xCrossS l load).fst.fst (xCrossS l load).fst.snd)).fst.fst * (List.getD (xShareS l load).fst x.1 ((0 : Int), (0 : Int))).snd < (List.getD (xShareS l load).fst x.1 ((0 : Int), (0 : Int))).fst * (xAtS (List.getD l x.1 []) (Int.tdiv (xCrossS l load).fst.fst (xCrossS l load).fst.snd)).fst.snd)) = false → fitP ((List.getD (xShareS l load).fst x.1 ((0 : Int), (0 : Int))).fst, (List.getD (xShareS l load).fst x.1 ((0 : Int), (0 : Int))).snd)) ∧ ((bif bif bif (xAtS (List.getD l x.1 []) (Int.tdiv (xCrossS l load).fst.fst (xCrossS l load).fst.snd)).snd + (xAtS (List.getD l x.1 []) (min (comS l).snd (Int.tdiv (xCrossS l load).fst.fst (xCrossS l load).fst.snd + (1 : Int)))).snd != (0 : Int) then true else !fitsS ((xAtS (List.getD l x.1 []) (Int.tdiv (xCrossS l load).fst.fst (xCrossS l load).fst.snd)).fst.fst, (xAtS (List.getD l x.1 []) (Int.tdiv (xCrossS l load).fst.fst (xCrossS l load).fst.snd)).fst.snd) then true else !fitsS ((xAtS (List.getD l x.1 []) (min (comS l).snd (Int.tdiv (xCrossS l load).fst.fst (xCrossS l load).fst.snd + (1 : Int)))).fst.fst, (xAtS (List.getD l x.1 []) (min (comS l).snd (Int.tdiv (xCrossS l load).fst.fst (xCrossS l load).fst.snd + (1 : Int)))).fst.snd) then true else decide ((xAtS (List.getD l x.1 []) (Int.tdiv (xCrossS l load).fst.fst (xCrossS l load).fst.snd)).fst.fst * (List.getD (xShareS l load).fst x.1 ((0 : Int), (0 : Int))).snd < (List.getD (xShareS l load).fst x.1 ((0 : Int), (0 : Int))).fst * (xAtS (List.getD l x.1 []) (Int.tdiv (xCrossS l load).fst.fst (xCrossS l load).fst.snd)).fst.snd)) = false → fitP ((xAtS (List.getD l x.1 []) (min (comS l).snd (Int.tdiv (xCrossS l load).fst.fst (xCrossS l load).fst.snd + (1 : Int)))).fst.fst, (xAtS (List.getD l x.1 []) (min (comS l).snd (Int.tdiv (xCrossS l load).fst.fst (xCrossS l load).fst.snd + (1 : Int)))).fst.snd))) ∧ ((bif bif bif bif (xAtS (List.getD l x.1 []) (Int.tdiv (xCrossS l load).fst.fst (xCrossS l load).fst.snd)).snd + (xAtS (List.getD l x.1 []) (min (comS l).snd (Int.tdiv (xCrossS l load).fst.fst (xCrossS l load).fst.snd + (1 : Int)))).snd != (0 : Int) then true else !fitsS ((xAtS (List.getD l x.1 []) (Int.tdiv (xCrossS l load).fst.fst (xCrossS l load).fst.snd)).fst.fst, (xAtS (List.getD l x.1 []) (Int.tdiv (xCrossS l load).fst.fst (xCrossS l load).fst.snd)).fst.snd) then true else !fitsS ((xAtS (List.getD l x.1 []) (min (comS l).snd (Int.tdiv (xCrossS l load).fst.fst (xCrossS l load).fst.snd + (1 : Int)))).fst.fst, (xAtS (List.getD l x.1 []) (min (comS l).snd (Int.tdiv (xCrossS l load).fst.fst (xCrossS l load).fst.snd + (1 : Int)))).fst.snd) then true else decide ((xAtS (List.getD l x.1 []) (Int.tdiv (xCrossS l load).fst.fst (xCrossS l load).fst.snd)).fst.fst * (List.getD (xShareS l load).fst x.1 ((0 : Int), (0 : Int))).snd < (List.getD (xShareS l load).fst x.1 ((0 : Int), (0 : Int))).fst * (xAtS (List.getD l x.1 []) (Int.tdiv (xCrossS l load).fst.fst (xCrossS l load).fst.snd)).fst.snd) then true else decide ((List.getD (xShareS l load).fst x.1 ((0 : Int), (0 : Int))).fst * (xAtS (List.getD l x.1 []) (min (comS l).snd (Int.tdiv (xCrossS l load).fst.fst (xCrossS l load).fst.snd + (1 : Int)))).fst.snd < (xAtS (List.getD l x.1 []) (min (comS l).snd (Int.tdiv (xCrossS l load).fst.fst (xCrossS l load).fst.snd + (1 : Int)))).fst.fst * (List.getD (xShareS l load).fst x.1 ((0 : Int), (0 : Int))).snd)) = true → false = true) ∧ ((bif bif bif bif (xAtS (List.getD l x.1 []) (Int.tdiv (xCrossS l load).fst.fst (xCrossS l load).fst.snd)).snd + (xAtS (List.getD l x.1 []) (min (comS l).snd (Int.tdiv (xCrossS l load).fst.fst (xCrossS l load).fst.snd + (1 : Int)))).snd != (0 : Int) then true else !fitsS ((xAtS (List.getD l x.1 []) (Int.tdiv (xCrossS l load).fst.fst (xCrossS l load).fst.snd)).fst.fst, (xAtS (List.getD l x.1 []) (Int.tdiv (xCrossS l load).fst.fst (xCrossS l load).fst.snd)).fst.snd) then true else !fitsS ((xAtS (List.getD l x.1 []) (min (comS l).snd (Int.tdiv (xCrossS l load).fst.fst (xCrossS l load).fst.snd + (1 : Int)))).fst.fst, (xAtS (List.getD l x.1 []) (min (comS l).snd (Int.tdiv (xCrossS l load).fst.fst (xCrossS l load).fst.snd + (1 : Int)))).fst.snd) then true else decide ((xAtS (List.getD l x.1 []) (Int.tdiv (xCrossS l load).fst.fst (xCrossS l load).fst.snd)).fst.fst * (List.getD (xShareS l load).fst x.1 ((0 : Int), (0 : Int))).snd < (List.getD (xShareS l load).fst x.1 ((0 : Int), (0 : Int))).fst * (xAtS (List.getD l x.1 []) (Int.tdiv (xCrossS l load).fst.fst (xCrossS l load).fst.snd)).fst.snd) then true else decide ((List.getD (xShareS l load).fst x.1 ((0 : Int), (0 : Int))).fst * (xAtS (List.getD l x.1 []) (min (comS l).snd (Int.tdiv (xCrossS l load).fst.fst (xCrossS l load).fst.snd + (1 : Int)))).fst.snd < (xAtS (List.getD l x.1 []) (min (comS l).snd (Int.tdiv (xCrossS l load).fst.fst (xCrossS l load).fst.snd + (1 : Int)))).fst.fst * (List.getD (xShareS l load).fst x.1 ((0 : Int), (0 : Int))).snd)) = false → (((-9200000000000000000 : Int) ≤ x.2.2 ∧ x.2.2 ≤ (9200000000000000000 : Int)) ∧ (-9200000000000000000 : Int) ≤ (List.getD (xShareS l load).fst x.1 ((0 : Int), (0 : Int))).snd ∧ (List.getD (xShareS l load).fst x.1 ((0 : Int), (0 : Int))).snd ≤ (9200000000000000000 : Int)) ∧ ((gcdS x.2.2 (List.getD (xShareS l load).fst x.1 ((0 : Int), (0 : Int))).snd = (0 : Int) → False) ∧ ((-9223372036854775808 : Int) ≤ Int.tdiv x.2.2 (gcdS x.2.2 (List.getD (xShareS l load).fst x.1 ((0 : Int), (0 : Int))).snd) ∧ Int.tdiv x.2.2 (gcdS x.2.2 (List.getD (xShareS l load).fst x.1 ((0 : Int), (0 : Int))).snd) ≤ (9223372036854775807 : Int)) ∧ (Int.tdiv x.2.2 (gcdS x.2.2 (List.getD (xShareS l load).fst x.1 ((0 : Int), (0 : Int))).snd) = (0 : Int) → False) ∧ (-9223372036854775808 : Int) ≤ Int.tdiv (17592186044416 : Int) (Int.tdiv x.2.2 (gcdS x.2.2 (List.getD (xShareS l load).fst x.1 ((0 : Int), (0 : Int))).snd)) ∧ Int.tdiv (17592186044416 : Int) (Int.tdiv x.2.2 (gcdS x.2.2 (List.getD (xShareS l load).fst x.1 ((0 : Int), (0 : Int))).snd)) ≤ (9223372036854775807 : Int)) ∧ (decide (Int.tdiv (17592186044416 : Int) (Int.tdiv x.2.2 (gcdS x.2.2 (List.getD (xShareS l load).fst x.1 ((0 : Int), (0 : Int))).snd)) < (List.getD (xShareS l load).fst x.1 ((0 : Int), (0 : Int))).snd) = true → false = true) ∧ (decide (Int.tdiv (17592186044416 : Int) (Int.tdiv x.2.2 (gcdS x.2.2 (List.getD (xShareS l load).fst x.1 ((0 : Int), (0 : Int))).snd)) < (List.getD (xShareS l load).fst x.1 ((0 : Int), (0 : Int))).snd) = false → ((gcdS x.2.2 (List.getD (xShareS l load).fst x.1 ((0 : Int), (0 : Int))).snd = (0 : Int) → False) ∧ ((-9223372036854775808 : Int) ≤ Int.tdiv (List.getD (xShareS l load).fst x.1 ((0 : Int), (0 : Int))).snd (gcdS x.2.2 (List.getD (xShareS l load).fst x.1 ((0 : Int), (0 : Int))).snd) ∧ Int.tdiv (List.getD (xShareS l load).fst x.1 ((0 : Int), (0 : Int))).snd (gcdS x.2.2 (List.getD (xShareS l load).fst x.1 ((0 : Int), (0 : Int))).snd) ≤ (9223372036854775807 : Int)) ∧ ((-9223372036854775808 : Int) ≤ x.2.1 * Int.tdiv (List.getD (xShareS l load).fst x.1 ((0 : Int), (0 : Int))).snd (gcdS x.2.2 (List.getD (xShareS l load).fst x.1 ((0 : Int), (0 : Int))).snd) ∧ x.2.1 * Int.tdiv (List.getD (xShareS l load).fst x.1 ((0 : Int), (0 : Int))).snd (gcdS x.2.2 (List.getD (xShareS l load).fst x.1 ((0 : Int), (0 : Int))).snd) ≤ (9223372036854775807 : Int)) ∧ (gcdS x.2.2 (List.getD (xShareS l load).fst x.1 ((0 : Int), (0 : Int))).snd = (0 : Int) → False) ∧ ((-9223372036854775808 : Int) ≤ Int.tdiv x.2.2 (gcdS x.2.2 (List.getD (xShareS l load).fst x.1 ((0 : Int), (0 : Int))).snd) ∧ Int.tdiv x.2.2 (gcdS x.2.2 (List.getD (xShareS l load).fst x.1 ((0 : Int), (0 : Int))).snd) ≤ (9223372036854775807 : Int)) ∧ ((-9223372036854775808 : Int) ≤ (List.getD (xShareS l load).fst x.1 ((0 : Int), (0 : Int))).fst * Int.tdiv x.2.2 (gcdS x.2.2 (List.getD (xShareS l load).fst x.1 ((0 : Int), (0 : Int))).snd) ∧ (List.getD (xShareS l load).fst x.1 ((0 : Int), (0 : Int))).fst * Int.tdiv x.2.2 (gcdS x.2.2 (List.getD (xShareS l load).fst x.1 ((0 : Int), (0 : Int))).snd) ≤ (9223372036854775807 : Int)) ∧ ((-9223372036854775808 : Int) ≤ x.2.1 * Int.tdiv (List.getD (xShareS l load).fst x.1 ((0 : Int), (0 : Int))).snd (gcdS x.2.2 (List.getD (xShareS l load).fst x.1 ((0 : Int), (0 : Int))).snd) + (List.getD (xShareS l load).fst x.1 ((0 : Int), (0 : Int))).fst * Int.tdiv x.2.2 (gcdS x.2.2 (List.getD (xShareS l load).fst x.1 ((0 : Int), (0 : Int))).snd) ∧ x.2.1 * Int.tdiv (List.getD (xShareS l load).fst x.1 ((0 : Int), (0 : Int))).snd (gcdS x.2.2 (List.getD (xShareS l load).fst x.1 ((0 : Int), (0 : Int))).snd) + (List.getD (xShareS l load).fst x.1 ((0 : Int), (0 : Int))).fst * Int.tdiv x.2.2 (gcdS x.2.2 (List.getD (xShareS l load).fst x.1 ((0 : Int), (0 : Int))).snd) ≤ (9223372036854775807 : Int)) ∧ (gcdS x.2.2 (List.getD (xShareS l load).fst x.1 ((0 : Int), (0 : Int))).snd = (0 : Int) → False) ∧ ((-9223372036854775808 : Int) ≤ Int.tdiv x.2.2 (gcdS x.2.2 (List.getD (xShareS l load).fst x.1 ((0 : Int), (0 : Int))).snd) ∧ Int.tdiv x.2.2 (gcdS x.2.2 (List.getD (xShareS l load).fst x.1 ((0 : Int), (0 : Int))).snd) ≤ (9223372036854775807 : Int)) ∧ (-9223372036854775808 : Int) ≤ Int.tdiv x.2.2 (gcdS x.2.2 (List.getD (xShareS l load).fst x.1 ((0 : Int), (0 : Int))).snd) * (List.getD (xShareS l load).fst x.1 ((0 : Int), (0 : Int))).snd ∧ Int.tdiv x.2.2 (gcdS x.2.2 (List.getD (xShareS l load).fst x.1 ((0 : Int), (0 : Int))).snd) * (List.getD (xShareS l load).fst x.1 ((0 : Int), (0 : Int))).snd ≤ (9223372036854775807 : Int)) ∧ (((-9200000000000000000 : Int) ≤ x.2.1 * Int.tdiv (List.getD (xShareS l load).fst x.1 ((0 : Int), (0 : Int))).snd (gcdS x.2.2 (List.getD (xShareS l load).fst x.1 ((0 : Int), (0 : Int))).snd) + (List.getD (xShareS l load).fst x.1 ((0 : Int), (0 : Int))).fst * Int.tdiv x.2.2 (gcdS x.2.2 (List.getD (xShareS l load).fst x.1 ((0 : Int), (0 : Int))).snd) ∧ x.2.1 * Int.tdiv (List.getD (xShareS l load).fst x.1 ((0 : Int), (0 : Int))).snd (gcdS x.2.2 (List.getD (xShareS l load).fst x.1 ((0 : Int), (0 : Int))).snd) + (List.getD (xShareS l load).fst x.1 ((0 : Int), (0 : Int))).fst * Int.tdiv x.2.2 (gcdS x.2.2 (List.getD (xShareS l load).fst x.1 ((0 : Int), (0 : Int))).snd) ≤ (9200000000000000000 : Int)) ∧ (0 : Int) < Int.tdiv x.2.2 (gcdS x.2.2 (List.getD (xShareS l load).fst x.1 ((0 : Int), (0 : Int))).snd) * (List.getD (xShareS l load).fst x.1 ((0 : Int), (0 : Int))).snd ∧ Int.tdiv x.2.2 (gcdS x.2.2 (List.getD (xShareS l load).fst x.1 ((0 : Int), (0 : Int))).snd) * (List.getD (xShareS l load).fst x.1 ((0 : Int), (0 : Int))).snd ≤ (9200000000000000000 : Int)) ∧ ((-9223372036854775808 : Int) ≤ (↑x.1 : Int) + (1 : Int) ∧ (↑x.1 : Int) + (1 : Int) ≤ (9223372036854775807 : Int)) ∧ ∃ (y : Nat × Int × Int), (load = load ∧ (comS l).fst = (comS l).fst ∧ (comS l).snd = (comS l).snd ∧ (lowestS (x.2.1 * Int.tdiv (List.getD (xShareS l load).fst x.1 ((0 : Int), (0 : Int))).snd (gcdS x.2.2 (List.getD (xShareS l load).fst x.1 ((0 : Int), (0 : Int))).snd) + (List.getD (xShareS l load).fst x.1 ((0 : Int), (0 : Int))).fst * Int.tdiv x.2.2 (gcdS x.2.2 (List.getD (xShareS l load).fst x.1 ((0 : Int), (0 : Int))).snd)) (Int.tdiv x.2.2 (gcdS x.2.2 (List.getD (xShareS l load).fst x.1 ((0 : Int), (0 : Int))).snd) * (List.getD (xShareS l load).fst x.1 ((0 : Int), (0 : Int))).snd)).fst = y.2.1 ∧ (lowestS (x.2.1 * Int.tdiv (List.getD (xShareS l load).fst x.1 ((0 : Int), (0 : Int))).snd (gcdS x.2.2 (List.getD (xShareS l load).fst x.1 ((0 : Int), (0 : Int))).snd) + (List.getD (xShareS l load).fst x.1 ((0 : Int), (0 : Int))).fst * Int.tdiv x.2.2 (gcdS x.2.2 (List.getD (xShareS l load).fst x.1 ((0 : Int), (0 : Int))).snd)) (Int.tdiv x.2.2 (gcdS x.2.2 (List.getD (xShareS l load).fst x.1 ((0 : Int), (0 : Int))).snd) * (List.getD (xShareS l load).fst x.1 ((0 : Int), (0 : Int))).snd)).snd = y.2.2 ∧ Int.tdiv (xCrossS l load).fst.fst (xCrossS l load).fst.snd = Int.tdiv (xCrossS l load).fst.fst (xCrossS l load).fst.snd ∧ (↑(List.length (xShareS l load).fst) : Int) = (↑(List.length (xShareS l load).fst) : Int) ∧ (↑x.1 : Int) + (1 : Int) = (↑y.1 : Int) ∧ l = l ∧ n.fst = n.fst ∧ n.snd = n.snd ∧ (xCrossS l load).fst.fst = (xCrossS l load).fst.fst ∧ (xCrossS l load).fst.snd = (xCrossS l load).fst.snd ∧ (xShareS l load).1 = (xShareS l load).fst) ∧ (y.fst ≤ List.length l ∧ ∀ (u : Int) (p : Int × Int), crossS l load = some (u, p) → shI p y.fst (y.2.fst, y.2.snd) ∧ shGo u p l ((0 : Int), (1 : Int)) = shGo u p (List.drop y.fst l) (y.2.fst, y.2.snd)) ∧ List.length l - y.fst < List.length l - x.fst)))) ∧ (decide ((↑x.1 : Int) < (↑(List.length (xShareS l load).fst) : Int)) = false → ((-9223372036854775808 : Int) ≤ load * x.2.2 ∧ load * x.2.2 ≤ (9223372036854775807 : Int)) ∧ ((x.2.1 != load * x.2.2) = true → false = true) ∧ ((x.2.1 != load * x.2.2) = false → (List.length l ≤ (1000000 : Nat) ∧ (∀ (x : List (Int × Int)), x ∈ l → List.length x ≤ (1000000 : Nat)) ∧ ((-9223372036854775808 : Int) ≤ load + (1 : Int) ∧ load + (1 : Int) ≤ (9223372036854775807 : Int)) ∧ List.length l ≤ (1000000 : Nat)) ∧ (((((xCrossS l (min (load + (1 : Int)) (3000 : Int))).snd == (0 : Int)) = true ∧ (!fitsS ((xCrossS l (min (load + (1 : Int)) (3000 : Int))).fst.fst, (xCrossS l (min (load + (1 : Int)) (3000 : Int))).fst.snd)) = false) ∧ decide (load < (3000 : Int)) = true → fitP ((xCrossS l (min (load + (1 : Int)) (3000 : Int))).fst.fst, (xCrossS l (min (load + (1 : Int)) (3000 : Int))).fst.snd)) ∧ ((((xCrossS l (min (load + (1 : Int)) (3000 : Int))).snd == (0 : Int)) = true ∧ (!fitsS ((xCrossS l (min (load + (1 : Int)) (3000 : Int))).fst.fst, (xCrossS l (min (load + (1 : Int)) (3000 : Int))).fst.snd)) = false) ∧ decide (load < (3000 : Int)) = true → fitP ((xCrossS l load).fst.fst, (xCrossS l load).fst.snd))) ∧ ((bif (xCrossS l (min (load + (1 : Int)) (3000 : Int))).snd == (0 : Int) then bif !fitsS ((xCrossS l (min (load + (1 : Int)) (3000 : Int))).fst.fst, (xCrossS l (min (load + (1 : Int)) (3000 : Int))).fst.snd) then true else bif decide (load < (3000 : Int)) then !decide ((xCrossS l (min (load + (1 : Int)) (3000 : Int))).fst.fst * (xCrossS l load).fst.snd < (xCrossS l load).fst.fst * (xCrossS l (min (load + (1 : Int)) (3000 : Int))).fst.snd) else false else false) = true → false = true) ∧ ((bif (xCrossS l (min (load + (1 : Int)) (3000 : Int))).snd == (0 : Int) then bif !fitsS ((xCrossS l (min (load + (1 : Int)) (3000 : Int))).fst.fst, (xCrossS l (min (load + (1 : Int)) (3000 : Int))).fst.snd) then true else bif decide (load < (3000 : Int)) then !decide ((xCrossS l (min (load + (1 : Int)) (3000 : Int))).fst.fst * (xCrossS l load).fst.snd < (xCrossS l load).fst.fst * (xCrossS l (min (load + (1 : Int)) (3000 : Int))).fst.snd) else false else false) = false → (((-9223372036854775808 : Int) ≤ n.fst ∧ n.fst ≤ (9223372036854775807 : Int)) ∧ ((-9223372036854775808 : Int) ≤ (comS l).snd - (comS l).fst ∧ (comS l).snd - (comS l).fst ≤ (9223372036854775807 : Int)) ∧ ((-9223372036854775808 : Int) ≤ (comS l).snd - (comS l).fst + (1 : Int) ∧ (comS l).snd - (comS l).fst + (1 : Int) ≤ (9223372036854775807 : Int)) ∧ ((-9223372036854775808 : Int) ≤ n.fst * ((comS l).snd - (comS l).fst + (1 : Int)) ∧ n.fst * ((comS l).snd - (comS l).fst + (1 : Int)) ≤ (9223372036854775807 : Int)) ∧ ((256 : Int) = (0 : Int) → False) ∧ ((-9223372036854775808 : Int) ≤ Int.tdiv (n.fst * ((comS l).snd - (comS l).fst + (1 : Int))) (256 : Int) ∧ Int.tdiv (n.fst * ((comS l).snd - (comS l).fst + (1 : Int))) (256 : Int) ≤ (9223372036854775807 : Int)) ∧ (-9223372036854775808 : Int) ≤ (comS l).fst + Int.tdiv (n.fst * ((comS l).snd - (comS l).fst + (1 : Int))) (256 : Int) ∧ (comS l).fst + Int.tdiv (n.fst * ((comS l).snd - (comS l).fst + (1 : Int))) (256 : Int) ≤ (9223372036854775807 : Int)) ∧ ∃ (x : Nat × Int × Int), ((comS l).fst + Int.tdiv (n.fst * ((comS l).snd - (comS l).fst + (1 : Int))) (256 : Int) = voltS l n ∧ (0 : Int) = x.2.1 ∧ (1 : Int) = x.2.2 ∧ (↑(List.length l) : Int) = (↑(List.length l) : Int) ∧ (0 : Int) = (↑x.1 : Int) ∧ l = l ∧ n.fst = n.fst ∧ n.snd = n.snd) ∧ (x.fst ≤ List.length l ∧ asI x.fst (x.2.fst, x.2.snd) ∧ aSumS l (voltS l n) = aSumGo (voltS l n) (List.drop x.fst l) (x.2.fst, x.2.snd)) ∧ ∀ (x : Nat × Int × Int), x.fst ≤ List.length l ∧ asI x.fst (x.2.fst, x.2.snd) ∧ aSumS l (voltS l n) = aSumGo (voltS l n) (List.drop x.fst l) (x.2.fst, x.2.snd) → (decide ((↑x.1 : Int) < (↑(List.length l) : Int)) = true → (((0 : Int) ≤ (↑x.1 : Int) ∧ (↑x.1 : Int) < (↑(List.length l) : Int)) ∧ ((0 : Int) ≤ (↑x.1 : Int) ∧ (↑x.1 : Int) < (↑(List.length l) : Int)) ∧ List.length (List.getD l x.1 []) ≤ (1000000 : Nat)) ∧ ((bif bif (xAtS (List.getD l x.1 []) (voltS l n)).snd != (0 : Int) then true else !fitsS ((xAtS (List.getD l x.1 []) (voltS l n)).fst.fst, (xAtS (List.getD l x.1 []) (voltS l n)).fst.snd) then true else decide ((1000 : Int) < (xAtS (List.getD l x.1 []) (voltS l n)).fst.snd)) = true → false = true) ∧ ((bif bif (xAtS (List.getD l x.1 []) (voltS l n)).snd != (0 : Int) then true else !fitsS ((xAtS (List.getD l x.1 []) (voltS l n)).fst.fst, (xAtS (List.getD l x.1 []) (voltS l n)).fst.snd) then true else decide ((1000 : Int) < (xAtS (List.getD l x.1 []) (voltS l n)).fst.snd)) = false → (((-9223372036854775808 : Int) ≤ x.2.1 * (xAtS (List.getD l x.1 []) (voltS l n)).fst.snd ∧ x.2.1 * (xAtS (List.getD l x.1 []) (voltS l n)).fst.snd ≤ (9223372036854775807 : Int)) ∧ ((-9223372036854775808 : Int) ≤ (xAtS (List.getD l x.1 []) (voltS l n)).fst.fst * x.2.2 ∧ (xAtS (List.getD l x.1 []) (voltS l n)).fst.fst * x.2.2 ≤ (9223372036854775807 : Int)) ∧ ((-9223372036854775808 : Int) ≤ x.2.1 * (xAtS (List.getD l x.1 []) (voltS l n)).fst.snd + (xAtS (List.getD l x.1 []) (voltS l n)).fst.fst * x.2.2 ∧ x.2.1 * (xAtS (List.getD l x.1 []) (voltS l n)).fst.snd + (xAtS (List.getD l x.1 []) (voltS l n)).fst.fst * x.2.2 ≤ (9223372036854775807 : Int)) ∧ (-9223372036854775808 : Int) ≤ x.2.2 * (xAtS (List.getD l x.1 []) (voltS l n)).fst.snd ∧ x.2.2 * (xAtS (List.getD l x.1 []) (voltS l n)).fst.snd ≤ (9223372036854775807 : Int)) ∧ ((-9223372036854775808 : Int) ≤ (↑x.1 : Int) + (1 : Int) ∧ (↑x.1 : Int) + (1 : Int) ≤ (9223372036854775807 : Int)) ∧ ∃ (y : Nat × Int × Int), (voltS l n = voltS l n ∧ x.2.1 * (xAtS (List.getD l x.1 []) (voltS l n)).fst.snd + (xAtS (List.getD l x.1 []) (voltS l n)).fst.fst * x.2.2 = y.2.1 ∧ x.2.2 * (xAtS (List.getD l x.1 []) (voltS l n)).fst.snd = y.2.2 ∧ (↑(List.length l) : Int) = (↑(List.length l) : Int) ∧ (↑x.1 : Int) + (1 : Int) = (↑y.1 : Int) ∧ l = l ∧ n.fst = n.fst ∧ n.snd = n.snd) ∧ (y.fst ≤ List.length l ∧ asI y.fst (y.2.fst, y.2.snd) ∧ aSumS l (voltS l n) = aSumGo (voltS l n) (List.drop y.fst l) (y.2.fst, y.2.snd)) ∧ List.length l - y.fst < List.length l - x.fst)) ∧ (decide ((↑x.1 : Int) < (↑(List.length l) : Int)) = false → (x.2.2 = (0 : Int) → False) ∧ ((Int.tmod x.2.1 x.2.2 != (0 : Int)) = true → true = true) ∧ ((Int.tmod x.2.1 x.2.2 != (0 : Int)) = false → (List.length l ≤ (1000000 : Nat) ∧ (∀ (x : List (Int × Int)), x ∈ l → List.length x ≤ (1000000 : Nat)) ∧ (x.2.2 = (0 : Int) → False) ∧ ((-9223372036854775808 : Int) ≤ Int.tdiv x.2.1 x.2.2 ∧ Int.tdiv x.2.1 x.2.2 ≤ (9223372036854775807 : Int)) ∧ List.length l ≤ (1000000 : Nat)) ∧ ((bif (xCrossS l (Int.tdiv x.2.1 x.2.2)).snd != (0 : Int) then true else !((xCrossS l (Int.tdiv x.2.1 x.2.2)).fst.fst == voltS l n && ((xCrossS l (Int.tdiv x.2.1 x.2.2)).fst.snd == (1 : Int) && true))) = true → false = true) ∧ ((bif (xCrossS l (Int.tdiv x.2.1 x.2.2)).snd != (0 : Int) then true else !((xCrossS l (Int.tdiv x.2.1 x.2.2)).fst.fst == voltS l n && ((xCrossS l (Int.tdiv x.2.1 x.2.2)).fst.snd == (1 : Int) && true))) = false → (((-9223372036854775808 : Int) ≤ n.snd ∧ n.snd ≤ (9223372036854775807 : Int)) ∧ ((51 : Int) = (0 : Int) → False)) ∧ (((0 : Int) ≤ (0 : Int) ∧ (0 : Int) < (↑(List.length l) : Int)) ∧ ((0 : Int) ≤ (0 : Int) ∧ (0 : Int) < (↑(List.length l) : Int)) ∧ List.length (List.getD l (0 : Nat) []) ≤ (1000000 : Nat)) ∧ ((((movedF (List.getD l (0 : Nat) []) (Int.tmod n.snd (51 : Int))).snd != (0 : Int)) = false → x.2.2 = (0 : Int) → False) ∧ (((movedF (List.getD l (0 : Nat) []) (Int.tmod n.snd (51 : Int))).snd != (0 : Int)) = false → (-9223372036854775808 : Int) ≤ Int.tdiv x.2.1 x.2.2 ∧ Int.tdiv x.2.1 x.2.2 ≤ (9223372036854775807 : Int)) ∧ (((movedF (List.getD l (0 : Nat) []) (Int.tmod n.snd (51 : Int))).snd != (0 : Int)) = false → (-9223372036854775808 : Int) ≤ Int.tdiv x.2.1 x.2.2 + Int.tmod n.snd (51 : Int) ∧ Int.tdiv x.2.1 x.2.2 + Int.tmod n.snd (51 : Int) ≤ (9223372036854775807 : Int))) ∧ ((bif (movedF (List.getD l (0 : Nat) []) (Int.tmod n.snd (51 : Int))).snd != (0 : Int) then true else decide ((3000 : Int) < Int.tdiv x.2.1 x.2.2 + Int.tmod n.snd (51 : Int))) = true → (bif bif (movedF (List.getD l (0 : Nat) []) (Int.tmod n.snd (51 : Int))).snd != (0 : Int) then (movedF (List.getD l (0 : Nat) []) (Int.tmod n.snd (51 : Int))).snd == (4 : Int) else false then true else (movedF (List.getD l (0 : Nat) []) (Int.tmod n.snd (51 : Int))).snd == (0 : Int)) = true) ∧ ((bif (movedF (List.getD l (0 : Nat) []) (Int.tmod n.snd (51 : Int))).snd != (0 : Int) then true else decide ((3000 : Int) < Int.tdiv x.2.1 x.2.2 + Int.tmod n.snd (51 : Int))) = false → (((0 : Int) ≤ (1 : Int) ∧ (1 : Int) ≤ (↑(List.length l) : Int) ∧ (↑(List.length l) : Int) ≤ (↑(List.length l) : Int)) ∧ List.length (List.drop (1 : Nat) (List.take (List.length l) l)) ≤ (1000000 : Nat) ∧ (∀ (x : List (Int × Int)), x ∈ List.drop (1 : Nat) (List.take (List.length l) l) → List.length x ≤ (1000000 : Nat)) ∧ ((1 : Nat) + List.length (List.drop (1 : Nat) (List.take (List.length l) l))) * (24 : Nat) ≤ (140737488355328 : Nat) ∧ (x.2.2 = (0 : Int) → False) ∧ ((-9223372036854775808 : Int) ≤ Int.tdiv x.2.1 x.2.2 ∧ Int.tdiv x.2.1 x.2.2 ≤ (9223372036854775807 : Int)) ∧ ((-9223372036854775808 : Int) ≤ Int.tdiv x.2.1 x.2.2 + Int.tmod n.snd (51 : Int) ∧ Int.tdiv x.2.1 x.2.2 + Int.tmod n.snd (51 : Int) ≤ (9223372036854775807 : Int)) ∧ List.length ((movedF (List.getD l (0 : Nat) []) (Int.tmod n.snd (51 : Int))).1 :: ([] ++ List.drop (1 : Nat) (List.take (List.length l) l))) ≤ (1000000 : Nat)) ∧ (bif bif (xCrossS ((movedF (List.getD l (0 : Nat) []) (Int.tmod n.snd (51 : Int))).1 :: ([] ++ List.drop (1 : Nat) (List.take (List.length l) l))) (Int.tdiv x.2.1 x.2.2 + Int.tmod n.snd (51 : Int))).snd == (0 : Int) then (xCrossS ((movedF (List.getD l (0 : Nat) []) (Int.tmod n.snd (51 : Int))).1 :: ([] ++ List.drop (1 : Nat) (List.take (List.length l) l))) (Int.tdiv x.2.1 x.2.2 + Int.tmod n.snd (51 : Int))).fst.fst == (xCrossS l (Int.tdiv x.2.1 x.2.2)).fst.fst && ((xCrossS ((movedF (List.getD l (0 : Nat) []) (Int.tmod n.snd (51 : Int))).1 :: ([] ++ List.drop (1 : Nat) (List.take (List.length l) l))) (Int.tdiv x.2.1 x.2.2 + Int.tmod n.snd (51 : Int))).fst.snd == (xCrossS l (Int.tdiv x.2.1 x.2.2)).fst.snd && true) else false then true else false) = true))))))))) ∧ (((xCrossS l load).snd == (0 : Int)) = false → (((-9223372036854775808 : Int) ≤ n.fst ∧ n.fst ≤ (9223372036854775807 : Int)) ∧ ((-9223372036854775808 : Int) ≤ (comGo l ((0 : Int), (1000 : Int))).snd - (comGo l ((0 : Int), (1000 : Int))).fst ∧ (comGo l ((0 : Int), (1000 : Int))).snd - (comGo l ((0 : Int), (1000 : Int))).fst ≤ (9223372036854775807 : Int)) ∧ ((-9223372036854775808 : Int) ≤ (comGo l ((0 : Int), (1000 : Int))).snd - (comGo l ((0 : Int), (1000 : Int))).fst + (1 : Int) ∧ (comGo l ((0 : Int), (1000 : Int))).snd - (comGo l ((0 : Int), (1000 : Int))).fst + (1 : Int) ≤ (9223372036854775807 : Int)) ∧ ((-9223372036854775808 : Int) ≤ n.fst * ((comGo l ((0 : Int), (1000 : Int))).snd - (comGo l ((0 : Int), (1000 : Int))).fst + (1 : Int)) ∧ n.fst * ((comGo l ((0 : Int), (1000 : Int))).snd - (comGo l ((0 : Int), (1000 : Int))).fst + (1 : Int)) ≤ (9223372036854775807 : Int)) ∧ ((256 : Int) = (0 : Int) → False) ∧ ((-9223372036854775808 : Int) ≤ Int.tdiv (n.fst * ((comGo l ((0 : Int), (1000 : Int))).snd - (comGo l ((0 : Int), (1000 : Int))).fst + (1 : Int))) (256 : Int) ∧ Int.tdiv (n.fst * ((comGo l ((0 : Int), (1000 : Int))).snd - (comGo l ((0 : Int), (1000 : Int))).fst + (1 : Int))) (256 : Int) ≤ (9223372036854775807 : Int)) ∧ (-9223372036854775808 : Int) ≤ (comGo l ((0 : Int), (1000 : Int))).fst + Int.tdiv (n.fst * ((comGo l ((0 : Int), (1000 : Int))).snd - (comGo l ((0 : Int), (1000 : Int))).fst + (1 : Int))) (256 : Int) ∧ (comGo l ((0 : Int), (1000 : Int))).fst + Int.tdiv (n.fst * ((comGo l ((0 : Int), (1000 : Int))).snd - (comGo l ((0 : Int), (1000 : Int))).fst + (1 : Int))) (256 : Int) ≤ (9223372036854775807 : Int)) ∧ ∃ (x : Nat × Int × Int), ((comGo l ((0 : Int), (1000 : Int))).fst + Int.tdiv (n.fst * ((comGo l ((0 : Int), (1000 : Int))).snd - (comGo l ((0 : Int), (1000 : Int))).fst + (1 : Int))) (256 : Int) = voltS l n ∧ (0 : Int) = x.2.1 ∧ (1 : Int) = x.2.2 ∧ (↑(List.length l) : Int) = (↑(List.length l) : Int) ∧ (0 : Int) = (↑x.1 : Int) ∧ l = l ∧ n.fst = n.fst ∧ n.snd = n.snd) ∧ (x.fst ≤ List.length l ∧ asI x.fst (x.2.fst, x.2.snd) ∧ aSumS l (voltS l n) = aSumGo (voltS l n) (List.drop x.fst l) (x.2.fst, x.2.snd)) ∧ ∀ (x : Nat × Int × Int), x.fst ≤ List.length l ∧ asI x.fst (x.2.fst, x.2.snd) ∧ aSumS l (voltS l n) = aSumGo (voltS l n) (List.drop x.fst l) (x.2.fst, x.2.snd) → (decide ((↑x.1 : Int) < (↑(List.length l) : Int)) = true → (((0 : Int) ≤ (↑x.1 : Int) ∧ (↑x.1 : Int) < (↑(List.length l) : Int)) ∧ ((0 : Int) ≤ (↑x.1 : Int) ∧ (↑x.1 : Int) < (↑(List.length l) : Int)) ∧ List.length (List.getD l x.1 []) ≤ (1000000 : Nat)) ∧ ((bif bif (xAtS (List.getD l x.1 []) (voltS l n)).snd != (0 : Int) then true else !fitsS ((xAtS (List.getD l x.1 []) (voltS l n)).fst.fst, (xAtS (List.getD l x.1 []) (voltS l n)).fst.snd) then true else decide ((1000 : Int) < (xAtS (List.getD l x.1 []) (voltS l n)).fst.snd)) = true → false = true) ∧ ((bif bif (xAtS (List.getD l x.1 []) (voltS l n)).snd != (0 : Int) then true else !fitsS ((xAtS (List.getD l x.1 []) (voltS l n)).fst.fst, (xAtS (List.getD l x.1 []) (voltS l n)).fst.snd) then true else decide ((1000 : Int) < (xAtS (List.getD l x.1 []) (voltS l n)).fst.snd)) = false → (((-9223372036854775808 : Int) ≤ x.2.1 * (xAtS (List.getD l x.1 []) (voltS l n)).fst.snd ∧ x.2.1 * (xAtS (List.getD l x.1 []) (voltS l n)).fst.snd ≤ (9223372036854775807 : Int)) ∧ ((-9223372036854775808 : Int) ≤ (xAtS (List.getD l x.1 []) (voltS l n)).fst.fst * x.2.2 ∧ (xAtS (List.getD l x.1 []) (voltS l n)).fst.fst * x.2.2 ≤ (9223372036854775807 : Int)) ∧ ((-9223372036854775808 : Int) ≤ x.2.1 * (xAtS (List.getD l x.1 []) (voltS l n)).fst.snd + (xAtS (List.getD l x.1 []) (voltS l n)).fst.fst * x.2.2 ∧ x.2.1 * (xAtS (List.getD l x.1 []) (voltS l n)).fst.snd + (xAtS (List.getD l x.1 []) (voltS l n)).fst.fst * x.2.2 ≤ (9223372036854775807 : Int)) ∧ (-9223372036854775808 : Int) ≤ x.2.2 * (xAtS (List.getD l x.1 []) (voltS l n)).fst.snd ∧ x.2.2 * (xAtS (List.getD l x.1 []) (voltS l n)).fst.snd ≤ (9223372036854775807 : Int)) ∧ ((-9223372036854775808 : Int) ≤ (↑x.1 : Int) + (1 : Int) ∧ (↑x.1 : Int) + (1 : Int) ≤ (9223372036854775807 : Int)) ∧ ∃ (y : Nat × Int × Int), (voltS l n = voltS l n ∧ x.2.1 * (xAtS (List.getD l x.1 []) (voltS l n)).fst.snd + (xAtS (List.getD l x.1 []) (voltS l n)).fst.fst * x.2.2 = y.2.1 ∧ x.2.2 * (xAtS (List.getD l x.1 []) (voltS l n)).fst.snd = y.2.2 ∧ (↑(List.length l) : Int) = (↑(List.length l) : Int) ∧ (↑x.1 : Int) + (1 : Int) = (↑y.1 : Int) ∧ l = l ∧ n.fst = n.fst ∧ n.snd = n.snd) ∧ (y.fst ≤ List.length l ∧ asI y.fst (y.2.fst, y.2.snd) ∧ aSumS l (voltS l n) = aSumGo (voltS l n) (List.drop y.fst l) (y.2.fst, y.2.snd)) ∧ List.length l - y.fst < List.length l - x.fst)) ∧ (decide ((↑x.1 : Int) < (↑(List.length l) : Int)) = false → (x.2.2 = (0 : Int) → False) ∧ ((Int.tmod x.2.1 x.2.2 != (0 : Int)) = true → true = true) ∧ ((Int.tmod x.2.1 x.2.2 != (0 : Int)) = false → (List.length l ≤ (1000000 : Nat) ∧ (∀ (x : List (Int × Int)), x ∈ l → List.length x ≤ (1000000 : Nat)) ∧ (x.2.2 = (0 : Int) → False) ∧ ((-9223372036854775808 : Int) ≤ Int.tdiv x.2.1 x.2.2 ∧ Int.tdiv x.2.1 x.2.2 ≤ (9223372036854775807 : Int)) ∧ List.length l ≤ (1000000 : Nat)) ∧ ((bif (xCrossS l (Int.tdiv x.2.1 x.2.2)).snd != (0 : Int) then true else !((xCrossS l (Int.tdiv x.2.1 x.2.2)).fst.fst == voltS l n && ((xCrossS l (Int.tdiv x.2.1 x.2.2)).fst.snd == (1 : Int) && true))) = true → false = true) ∧ ((bif (xCrossS l (Int.tdiv x.2.1 x.2.2)).snd != (0 : Int) then true else !((xCrossS l (Int.tdiv x.2.1 x.2.2)).fst.fst == voltS l n && ((xCrossS l (Int.tdiv x.2.1 x.2.2)).fst.snd == (1 : Int) && true))) = false → (((-9223372036854775808 : Int) ≤ n.snd ∧ n.snd ≤ (9223372036854775807 : Int)) ∧ ((51 : Int) = (0 : Int) → False)) ∧ (((0 : Int) ≤ (0 : Int) ∧ (0 : Int) < (↑(List.length l) : Int)) ∧ ((0 : Int) ≤ (0 : Int) ∧ (0 : Int) < (↑(List.length l) : Int)) ∧ List.length (List.getD l (0 : Nat) []) ≤ (1000000 : Nat)) ∧ ((((movedF (List.getD l (0 : Nat) []) (Int.tmod n.snd (51 : Int))).snd != (0 : Int)) = false → x.2.2 = (0 : Int) → False) ∧ (((movedF (List.getD l (0 : Nat) []) (Int.tmod n.snd (51 : Int))).snd != (0 : Int)) = false → (-9223372036854775808 : Int) ≤ Int.tdiv x.2.1 x.2.2 ∧ Int.tdiv x.2.1 x.2.2 ≤ (9223372036854775807 : Int)) ∧ (((movedF (List.getD l (0 : Nat) []) (Int.tmod n.snd (51 : Int))).snd != (0 : Int)) = false → (-9223372036854775808 : Int) ≤ Int.tdiv x.2.1 x.2.2 + Int.tmod n.snd (51 : Int) ∧ Int.tdiv x.2.1 x.2.2 + Int.tmod n.snd (51 : Int) ≤ (9223372036854775807 : Int))) ∧ ((bif (movedF (List.getD l (0 : Nat) []) (Int.tmod n.snd (51 : Int))).snd != (0 : Int) then true else decide ((3000 : Int) < Int.tdiv x.2.1 x.2.2 + Int.tmod n.snd (51 : Int))) = true → (bif bif (movedF (List.getD l (0 : Nat) []) (Int.tmod n.snd (51 : Int))).snd != (0 : Int) then (movedF (List.getD l (0 : Nat) []) (Int.tmod n.snd (51 : Int))).snd == (4 : Int) else false then true else (movedF (List.getD l (0 : Nat) []) (Int.tmod n.snd (51 : Int))).snd == (0 : Int)) = true) ∧ ((bif (movedF (List.getD l (0 : Nat) []) (Int.tmod n.snd (51 : Int))).snd != (0 : Int) then true else decide ((3000 : Int) < Int.tdiv x.2.1 x.2.2 + Int.tmod n.snd (51 : Int))) = false → (((0 : Int) ≤ (1 : Int) ∧ (1 : Int) ≤ (↑(List.length l) : Int) ∧ (↑(List.length l) : Int) ≤ (↑(List.length l) : Int)) ∧ List.length (List.drop (1 : Nat) (List.take (List.length l) l)) ≤ (1000000 : Nat) ∧ (∀ (x : List (Int × Int)), x ∈ List.drop (1 : Nat) (List.take (List.length l) l) → List.length x ≤ (1000000 : Nat)) ∧ ((1 : Nat) + List.length (List.drop (1 : Nat) (List.take (List.length l) l))) * (24 : Nat) ≤ (140737488355328 : Nat) ∧ (x.2.2 = (0 : Int) → False) ∧ ((-9223372036854775808 : Int) ≤ Int.tdiv x.2.1 x.2.2 ∧ Int.tdiv x.2.1 x.2.2 ≤ (9223372036854775807 : Int)) ∧ ((-9223372036854775808 : Int) ≤ Int.tdiv x.2.1 x.2.2 + Int.tmod n.snd (51 : Int) ∧ Int.tdiv x.2.1 x.2.2 + Int.tmod n.snd (51 : Int) ≤ (9223372036854775807 : Int)) ∧ List.length ((movedF (List.getD l (0 : Nat) []) (Int.tmod n.snd (51 : Int))).1 :: ([] ++ List.drop (1 : Nat) (List.take (List.length l) l))) ≤ (1000000 : Nat)) ∧ (bif bif (xCrossS ((movedF (List.getD l (0 : Nat) []) (Int.tmod n.snd (51 : Int))).1 :: ([] ++ List.drop (1 : Nat) (List.take (List.length l) l))) (Int.tdiv x.2.1 x.2.2 + Int.tmod n.snd (51 : Int))).snd == (0 : Int) then (xCrossS ((movedF (List.getD l (0 : Nat) []) (Int.tmod n.snd (51 : Int))).1 :: ([] ++ List.drop (1 : Nat) (List.take (List.length l) l))) (Int.tdiv x.2.1 x.2.2 + Int.tmod n.snd (51 : Int))).fst.fst == (xCrossS l (Int.tdiv x.2.1 x.2.2)).fst.fst && ((xCrossS ((movedF (List.getD l (0 : Nat) []) (Int.tmod n.snd (51 : Int))).1 :: ([] ++ List.drop (1 : Nat) (List.take (List.length l) l))) (Int.tdiv x.2.1 x.2.2 + Int.tmod n.snd (51 : Int))).fst.snd == (xCrossS l (Int.tdiv x.2.1 x.2.2)).fst.snd && true) else false then true else false) = true))))))))) := by
  intros
  kernel_rfl
theorem wp9 (l : List (List (Int × Int))) (load : Int) (n : Int × Int) : wpF Tryz.prog G140 (annShared l load n) Tryz.f9 cFlowShared (l, load, n, ()) := by
  refine (vc9 l load n).mpr ?_
  intro hb n1 n2
  change u8 n.1 at n1
  change u8 n.2 at n2
  unfold u8 at n1 n2
  have hE : shortL l = true → l.length ≤ 1000000 := fun hs => by
    unfold shortL at hs
    simp only [Bool.and_eq_true, decide_eq_true_eq] at hs
    omega
  refine ⟨⟨hb, fun h => hE (by simpa using h)⟩, fun _ => rfl, fun h => ?_⟩
  have hh : shortL l = true ∧ linesS l = 0 ∧ -3000 ≤ load ∧ load ≤ 3000 := by
    have k : ∀ a b c : Bool, (bif bif !a then true else b then true else c) = false → a = true ∧ b = false ∧ c = false := by decide
    obtain ⟨a1, a2, a3⟩ := k _ _ _ h
    exact ⟨a1, bne_eq_false_iff_eq.1 a2, withinS_zero (bne_eq_false_iff_eq.1 a3)⟩
  clear h hE
  obtain ⟨hs, hl, hL⟩ := hh
  have hs : (∀ x ∈ l, x.length ≤ 10) ∧ l.length ≤ 5 := by
    unfold shortL at hs
    simp only [Bool.and_eq_true, List.all_eq_true, decide_eq_true_eq] at hs
    exact hs
  obtain ⟨l1, l3, l2, l4, l5, l6⟩ := lines_ok hl
  have b1 : l.length ≤ 1000000 := by omega
  have b2 : ∀ x : List (Int × Int), x ∈ l → x.length ≤ 1000000 := fun x hx => by have := hs.1 x hx; omega
  have b3 : ∀ x : List (Int × Int), x ∈ l → 0 < x.length ∧ x.length ≤ 1000000 := fun x hx => ⟨by have := (line_ok (l2 x hx)).1.1; omega, b2 x hx⟩
  have hcom : comGo l (0, 1000) = comS l := comGo_from l1 l2
  have hall : ∀ v, (comS l).1 ≤ v → v ≤ (comS l).2 → inAll l v := fun v h1 h2 => lines_in hl ⟨h1, h2⟩
  have hlt0 : ∀ k m : Nat, decide ((k : Int) < (m : Int)) = true → k < m := fun k m h => by have := of_decide_eq_true h; omega
  have hge0 : ∀ k m : Nat, decide ((k : Int) < (m : Int)) = false → m ≤ k := fun k m h => by have := of_decide_eq_false h; omega
  simp only [hcom]
  refine ⟨(0 : Nat), by simp, ⟨Nat.zero_le _, fun x hx => by simp at hx⟩, fun k hk => ⟨fun hlt => ?_, fun hlt => ?_⟩⟩
  · have hlt := hlt0 _ _ hlt
    have hx := l2 _ (getD_memL hlt)
    have ho := (line_ok hx).1
    have ek : (((l.getD k []).length : Int) - 1).toNat = (l.getD k []).length - 1 := by have := ho.1; omega
    have h8 := ho.2.1
    have h2 := ho.1
    rw [ek]
    refine ⟨⟨by omega, by omega⟩, ⟨by omega, by omega, by omega⟩, fun _ => trivial, fun h => ⟨by omega, k + 1, by simp, ⟨hlt, ?_⟩, by omega⟩⟩
    rw [← take_snoc (d := []) hlt]
    intro x hx
    rcases List.mem_append.1 hx with hx | hx
    · exact hk.2 x hx
    · rw [List.mem_singleton.1 hx]
      have := of_decide_eq_false h
      omega
  have hlt := hge0 _ _ hlt
  obtain ⟨_, ht⟩ := hk
  rw [List.take_of_length_le hlt] at ht
  have h0 : loadE l load = 0 := by unfold loadE; rw [firstS_zero, firstS_zero]; exact ⟨hl, withinS_in hL, rfl⟩
  refine ⟨⟨b1, b3⟩, ⟨b1, b2, b1⟩, ⟨b1, b2, b1⟩, ?_⟩
  have hW : 0 ≤ n.1 * ((comS l).2 - (comS l).1 + 1) ∧ n.1 * ((comS l).2 - (comS l).1 + 1) ≤ 255 * ((comS l).2 - (comS l).1 + 1) := ⟨Int.mul_nonneg n1.1 (by omega), Int.mul_le_mul_of_nonneg_right n1.2 (by omega)⟩
  have hW2 : (n.1 * ((comS l).2 - (comS l).1 + 1)).tdiv 256 = n.1 * ((comS l).2 - (comS l).1 + 1) / 256 := Int.tdiv_eq_ediv_of_nonneg hW.1
  have hVd : voltS l n = (comS l).1 + (n.1 * ((comS l).2 - (comS l).1 + 1)).tdiv 256 := rfl
  have hV : (comS l).1 ≤ voltS l n ∧ voltS l n ≤ (comS l).2 := by omega
  have hxa : ∀ x ∈ l, ∀ v, inS x v → xAtS x v = (atS x v, 0) := fun x hx v hv => by
    have e : checkAtS x v = 0 := checkAt_of (l2 x hx) hv
    unfold xAtS
    unfold checkAtS at e
    rw [if_neg (by simpa using l2 x hx)] at e ⊢
    by_cases hh : hasS x v = true
    · rw [if_pos hh]
    · rw [if_neg hh] at e; simp at e
  have fitT : ∀ x : Int × Int, fitP x → fitsS (x.1, x.2) = true := fun x hx => by
    unfold fitsS
    obtain ⟨⟨h1, h2⟩, h3, h4⟩ := hx
    exact decide_eq_true ⟨h1, h2, h3, h4⟩
  have fitA : ∀ x ∈ l, ∀ v, (comS l).1 ≤ v → v ≤ (comS l).2 → fitP (atS x v) := fun x hx v h1 h2 => by
    obtain ⟨⟨a1, a2⟩, a3, a4⟩ := at_thin (hall v h1 h2) ht hx
    exact ⟨⟨by omega, by omega⟩, by omega, by omega⟩
  have hxc : ∀ L u p, -3000 ≤ L ∧ L ≤ 3000 → crossS l L = some (u, p) → xCrossS l L = (plusS (u, 1) p, 0) := fun L u p h1 h2 => by
    have : loadE l L = 0 := by unfold loadE; rw [firstS_zero, firstS_zero]; exact ⟨hl, withinS_in h1, rfl⟩
    unfold xCrossS; rw [if_neg (by simpa using this), h2]
  have fitC : ∀ L u p, -3000 ≤ L ∧ L ≤ 3000 → crossS l L = some (u, p) → fitP (plusS (u, 1) p) := fun L u p h1 h2 => by
    have hf := found_of hl h1 h2
    have hp := found_part hl h1 ht h2
    obtain ⟨⟨c1, c2⟩, ⟨c3, c4, c5⟩, c6⟩ := found_at hl hf
    have := mul_bd (a := (comS l).2) (b := (plusS (u, 1) p).2) (A := 1000) (B := 21600000) ⟨by omega, by omega⟩ ⟨by omega, by omega⟩
    exact ⟨⟨by omega, by omega⟩, by omega, by omega⟩
  cases hc : crossS l load with
  | none =>
    have e2 : xCrossS l load = ((0, 0), 7) := by unfold xCrossS; rw [if_neg (by simpa using h0), hc]
    have e3 : xShareS l load = ([], 7) := by unfold xShareS; rw [if_neg (by simpa using h0), hc]
    simp only [e2, e3]
    refine ⟨fun h => by simp at h, fun _ => ⟨fun h => by simp at h, fun _ => ?_⟩⟩
    refine ⟨⟨by omega, by omega, by omega, by omega, by decide, by omega, by omega⟩, (0, 0, 1), ⟨rfl, rfl, rfl, trivial, rfl, trivial, trivial, trivial⟩, ⟨Nat.zero_le _, by unfold asI; simp, rfl⟩, ?_⟩
    rintro ⟨k, a, b⟩ ⟨i1, i2, i3⟩
    dsimp only at i1 i2 i3 ⊢
    have hVA := hall _ hV.1 hV.2
    have a3 := asI_bd i2 (by omega)
    dsimp only at a3
    refine ⟨fun hk => ?_, fun hk => ?_⟩
    · have hk := hlt0 _ _ hk
      have hmem := getD_memL hk
      obtain ⟨⟨y1, y2⟩, y3, y4⟩ := at_thin hVA ht hmem
      have hst := asI_step hVA ht i2 hmem
      have hdr := aSumGo_drop (v := voltS l n) (s := (a, b)) hk
      have hlk := b2 _ hmem
      have hfa := fitT _ (fitA _ hmem _ hV.1 hV.2)
      have hsb := asI_bd hst (by omega)
      rw [hxa _ hmem _ (hVA _ hmem).2]
      dsimp only at hst hdr hsb ⊢
      rw [hfa]
      have j3 := i3.trans hdr
      generalize atS (l.getD k []) (voltS l n) = S at *
      have m3 := mul_bd (a := a) (b := S.2) (A := 1000000000) (B := 60) ⟨by omega, by omega⟩ ⟨by omega, by omega⟩
      have m4 := mul_bd (a := S.1) (b := b) (A := 60000) (B := 216000) ⟨by omega, by omega⟩ ⟨by omega, by omega⟩
      refine ⟨⟨by omega, by omega, hlk⟩, fun h => ?_, fun _ => ⟨⟨by omega, by omega, by omega, by omega⟩, by omega, (k + 1, _, _), ⟨trivial, rfl, rfl, trivial, by simp, trivial, trivial, trivial⟩, ⟨by dsimp only; omega, hst, j3⟩, by dsimp only; omega⟩⟩
      rw [decide_eq_false (by omega)] at h
      simp at h
    · have hk := hge0 _ _ hk
      have hk : k = l.length := by omega
      subst hk
      rw [List.drop_length] at i3
      have i3 : aSumS l (voltS l n) = (a, b) := i3
      refine ⟨by omega, fun _ => trivial, fun hm => ?_⟩
      have hm : a.tmod b = 0 := bne_eq_false_iff_eq.1 hm
      have hab : a = a.tdiv b * b := by
        have := Int.mul_tdiv_add_tmod a b
        rw [hm, Int.add_zero, Int.mul_comm] at this
        exact this.symm
      have hLb : -3000 ≤ a.tdiv b ∧ a.tdiv b ≤ 3000 := by
        have r1 : a.tdiv b * b ≤ 3000 * b := by omega
        have r2 : -3000 * b ≤ a.tdiv b * b := by omega
        exact ⟨Int.le_of_mul_le_mul_right r2 (by omega), Int.le_of_mul_le_mul_right r1 (by omega)⟩
      have hhit : sgS l (a.tdiv b) (voltS l n) = 0 := hit_of hVA (by rw [i3]; exact hab)
      have hcr := cross_hit hl hV.1 hV.2 hhit
      have hp1 : ∀ v : Int, plusS (v, 1) (0, 1) = (v, 1) := fun v => by
        rw [plus_int (show (0 : Int) < ((0 : Int), (1 : Int)).2 from Int.one_pos)]
        have := lowest_mul (k := v) (n := 1) (by decide)
        simpa using this
      have hxL : xCrossS l (a.tdiv b) = ((voltS l n, 1), 0) := by rw [hxc _ _ _ hLb hcr, hp1]
      have t51 : 0 ≤ n.2.tmod 51 ∧ n.2.tmod 51 < 51 := by
        rw [Int.tmod_eq_emod_of_nonneg n2.1]
        omega
      generalize a.tdiv b = L at *
      rw [hxL]
      have hm0 : l.getD 0 [] ∈ l := getD_mem l1
      have hlk := b2 _ hm0
      refine ⟨⟨b1, b2, by omega, by omega, b1⟩, fun h => by simp at h, fun _ => ⟨⟨by omega, by decide⟩, ⟨by omega, by omega, hlk⟩, ?_⟩⟩
      have hmf := moved_facts (x := l.getD 0 []) (b := n.2.tmod 51) (l2 _ hm0) (by omega)
      generalize movedF (l.getD 0 []) (n.2.tmod 51) = MV at hmf ⊢
      obtain ⟨mv1, mv2⟩ := MV
      dsimp only at hmf ⊢
      rcases hmf with ⟨rfl, rfl, g3⟩ | rfl
      · skip
        refine ⟨⟨fun _ => by omega, fun _ => by omega, fun _ => by omega⟩, fun h => by simp, fun h => ?_⟩
        have hle : ¬ 3000 < L + n.2.tmod 51 := by
          intro h'
          rw [decide_eq_true h'] at h
          simp at h
        have hr : ∃ r, l = l.getD 0 [] :: r := by
          cases l with
          | nil => simp at l1
          | cons x r => exact ⟨r, rfl⟩
        obtain ⟨r, hr⟩ := hr
        have hd : List.drop 1 (List.take l.length l) = r := by rw [List.take_length, hr]; rfl
        have hlen : r.length + 1 = l.length := by rw [← List.length_cons (a := l.getD 0 []), ← hr]
        have hl' := hl
        rw [hr] at hl'
        have hx0 := up_lines hl' g3
        have hV' := hV
        have hhit' := hhit
        generalize voltS l n = V at *
        have hcr2 := up_hit (r := r) (x := l.getD 0 []) (b := n.2.tmod 51) (v := V) (L := L) hl' g3 (by rw [← hr]; exact hV') (by rw [← hr]; exact hhit')
        have hxU : xCrossS (upL (l.getD 0 []) (n.2.tmod 51) :: r) (L + n.2.tmod 51) = ((V, 1), 0) := by
          have : loadE (upL (l.getD 0 []) (n.2.tmod 51) :: r) (L + n.2.tmod 51) = 0 := by unfold loadE; rw [firstS_zero, firstS_zero]; exact ⟨hx0, withinS_in (by omega), rfl⟩
          unfold xCrossS
          rw [if_neg (by simpa using this), hcr2]
          show (plusS (V, 1) (0, 1), (0 : Int)) = _
          rw [hp1]
        rw [hd, List.nil_append, hxU]
        have hrl : ∀ x : List (Int × Int), x ∈ r → x.length ≤ 1000000 := fun x hx => b2 x (by rw [hr]; simp [hx])
        exact ⟨⟨⟨by omega, by omega, by omega⟩, by omega, hrl, by omega, by omega, by omega, by omega, by simp only [List.length_cons]; omega⟩, by simp⟩
      · exact ⟨⟨fun h => by simp at h, fun h => by simp at h, fun h => by simp at h⟩, fun _ => by simp, fun h => by simp at h⟩
  | some q =>
    obtain ⟨u, p⟩ := q
    have hf := found_of hl hL hc
    have hp := found_part hl hL ht hc
    obtain ⟨⟨c1, c2⟩, ⟨c3, c4, c5⟩, c6⟩ := found_at hl hf
    have e2 : xCrossS l load = (plusS (u, 1) p, 0) := hxc load u p hL hc
    have e3 : xShareS l load = (l.map fun x => shareS x u p, 0) := by unfold xShareS; rw [if_neg (by simpa using h0), hc]
    have hfc := fitT _ (fitC load u p hL hc)
    have m1 := mul_bd (a := (comS l).1) (b := (plusS (u, 1) p).2) (A := 1000) (B := 21600000) ⟨by omega, by omega⟩ ⟨by omega, by omega⟩
    have m2 := mul_bd (a := (comS l).2) (b := (plusS (u, 1) p).2) (A := 1000) (B := 21600000) ⟨by omega, by omega⟩ ⟨by omega, by omega⟩
    have hu1 := hf.lo
    have hu2 := hf.hi
    have hget : ∀ k, k < l.length → (l.map fun x => shareS x u p).getD k (0, 0) = shareS (l.getD k []) u p := fun k hk => by
      simp [List.getD_eq_getElem?_getD, hk]
    simp only [e2, e3, c6, List.length_map, hfc]
    refine ⟨fun h => by simp at h, fun _ => ⟨fun _ => ⟨⟨fun _ => ⟨by omega, by omega⟩, fun _ => ⟨by omega, by omega⟩⟩, fun h => ?_, fun _ => ⟨⟨by omega, by omega, by omega⟩, (0, 0, 1), by simp, ⟨Nat.zero_le _, fun u' p' _ => ⟨shI_zero, rfl⟩⟩, ?_⟩⟩, fun h => by simp at h⟩⟩
    · exfalso
      simp at h
      omega
    rintro ⟨k, a, b⟩ ⟨i1, i2⟩
    obtain ⟨j1, j2⟩ := i2 u p rfl
    dsimp only at i1 j1 j2 ⊢
    refine ⟨fun hk => ?_, fun hk => ?_⟩
    · have hk := hlt0 _ _ hk
      have hmem := getD_memL hk
      rw [hget k hk]
      obtain ⟨s1, s2, s3, s4⟩ := shI_step hf ht hp.2 j1 (by omega) hmem
      have hS : fitP (shareS (l.getD k []) u p) := ⟨⟨by omega, by omega⟩, by omega, by omega⟩
      have hin := (hf.in1 _ hmem).2
      have hw : min (comS l).2 (u + 1) = u ∨ min (comS l).2 (u + 1) = u + 1 := by omega
      have hw1 : (comS l).1 ≤ min (comS l).2 (u + 1) ∧ min (comS l).2 (u + 1) ≤ (comS l).2 := by omega
      have hw2 : p.1 ≠ 0 → min (comS l).2 (u + 1) = u + 1 := fun h => by have := (hf.in2 h).1; omega
      have hwi := (hall _ hw1.1 hw1.2 _ hmem).2
      obtain ⟨t1, t2⟩ := share_between hf hmem
      have t2 := t2 _ hw hw2 hwi
      unfold ltV at t1 t2
      have fa1 := fitA _ hmem u hu1 hu2
      have fa2 := fitA _ hmem _ hw1.1 hw1.2
      rw [hxa _ hmem u hin, hxa _ hmem _ hwi]
      dsimp only
      rw [fitT _ hS, fitT _ fa1, fitT _ fa2, decide_eq_false t1, decide_eq_false t2]
      have hplus : plusS (a, b) (shareS (l.getD k []) u p) = lowestS (a * (shareS (l.getD k []) u p).2.tdiv (gcdS b (shareS (l.getD k []) u p).2) + (shareS (l.getD k []) u p).1 * b.tdiv (gcdS b (shareS (l.getD k []) u p).2)) (b.tdiv (gcdS b (shareS (l.getD k []) u p).2) * (shareS (l.getD k []) u p).2) := rfl
      have hdr := shGo_drop (u := u) (p := p) (s := (a, b)) hk
      have hlcm : b.tdiv (gcdS b (shareS (l.getD k []) u p).2) * (shareS (l.getD k []) u p).2 ≤ 5000000000000 := s3
      have hbd := plus_bd (x := (a, b)) (y := shareS (l.getD k []) u p) ⟨s1.1, by dsimp only at s1 ⊢; omega, by dsimp only at s1 ⊢; omega, by dsimp only at s1 ⊢; omega⟩ ⟨s2.1, by omega, by omega, by omega⟩ (by show lcmS (a, b) _ ≤ _; omega)
      dsimp only at hbd s1
      obtain ⟨q1, q2, q3, q4, q5, q6⟩ := hbd
      have ml : (k : Int) + 1 ≤ l.length := by omega
      have hlk := b2 _ hmem
      rw [← hplus]
      have j3 := j2.trans hdr
      clear j2 hdr
      generalize plusS (a, b) (shareS (l.getD k []) u p) = Z at *
      generalize shareS (l.getD k []) u p = S at *
      generalize gcdS b S.2 = g at *
      have q7 : 0 < 17592186044416 / b.tdiv g := by
        have := (Int.le_ediv_iff_mul_le (a := 1) (b := 17592186044416) q2.1).2 (by omega)
        omega
      have q8 : (17592186044416 : Int).tdiv (b.tdiv g) = 17592186044416 / b.tdiv g := Int.tdiv_eq_ediv_of_nonneg (by decide)
      have q9 : S.2 ≤ 17592186044416 / b.tdiv g := (Int.le_ediv_iff_mul_le q2.1).2 (by rw [Int.mul_comm]; omega)
      have q10 : 17592186044416 / b.tdiv g ≤ 17592186044416 := Int.ediv_le_self _ (by decide)
      rw [q8]
      generalize (17592186044416 : Int) / b.tdiv g = Q at *
      generalize b.tdiv g = B1 at *
      generalize S.2.tdiv g = S1 at *
      refine ⟨⟨by omega, by omega⟩, fun h => by simp at h, fun _ => ⟨⟨by omega, by omega, hlk⟩, ⟨by omega, by omega, hlk, by omega, by omega⟩, ⟨by omega, fun _ => fa1, fun _ => hS, fun _ => hS, fun _ => fa2⟩, fun h => by simp at h, fun _ => ⟨⟨by omega, by omega, by omega⟩, ⟨by omega, by omega, by omega, by omega, by omega⟩, fun h => ?_, fun _ => ⟨⟨by omega, by omega, by omega, by omega, by omega, by omega, by omega, by omega, by omega, by omega, by omega⟩, ⟨⟨by omega, by omega⟩, q4.1, by omega⟩, by omega, (k + 1, Z.1, Z.2), by simp, ⟨by dsimp only; omega, ?_⟩, by dsimp only; omega⟩⟩⟩⟩
      · have := of_decide_eq_true h
        omega
      · intro u' p' he
        cases he
        exact ⟨s4, j3⟩
    · have hk := hge0 _ _ hk
      have hk : k = l.length := by omega
      subst hk
      rw [List.drop_length] at j2
      have htot := hf.tot
      rw [j2] at htot
      have htot : a = load * b := htot
      have hb0 : 0 < b ∧ b ≤ 216000 * 21600000 := by
        obtain ⟨E, z1, z2, z3⟩ := j1
        have w1 := pow60 (k := l.length) l3
        have z4 := Int.le_of_dvd (Int.mul_pos z1 hp.1) z3.2.1
        have z5 : E * p.2 ≤ 216000 * 21600000 := Int.mul_le_mul (by omega) hp.2 (Int.le_of_lt hp.1) (by decide)
        have z6 := z3.1
        dsimp only at z4 z6
        omega
      have mb := mul_bd (a := load) (b := b) (A := 3000) (B := 216000 * 21600000) ⟨by omega, by omega⟩ ⟨by omega, by omega⟩
      obtain ⟨M, hM, hM1⟩ : ∃ M, xCrossS l (min (load + 1) 3000) = M ∧ (M.2 = 0 → fitP M.1 ∧ (load < 3000 → M.1.1 * (plusS (u, 1) p).2 < (plusS (u, 1) p).1 * M.1.2)) := by
        refine ⟨_, rfl, fun hz => ?_⟩
        cases hc2 : crossS l (min (load + 1) 3000) with
        | none =>
          exfalso
          have : loadE l (min (load + 1) 3000) = 0 := by unfold loadE; rw [firstS_zero, firstS_zero]; exact ⟨hl, withinS_in (by omega), rfl⟩
          unfold xCrossS at hz
          rw [if_neg (by simpa using this), hc2] at hz
          simp at hz
        | some q2 =>
          obtain ⟨u2, p2⟩ := q2
          rw [hxc _ u2 p2 (by omega) hc2]
          refine ⟨fitC _ u2 p2 (by omega) hc2, fun hlt3 => ?_⟩
          have e : min (load + 1) 3000 = load + 1 := by omega
          rw [e] at hc2
          exact cross_less hl hc hc2
      rw [hM]
      refine ⟨by omega, fun h => by simp [htot] at h, fun _ => ⟨⟨b1, b2, by omega, b1⟩, ⟨fun h => (hM1 (eq_of_beq h.1.1)).1, fun _ => fitC load u p hL hc⟩, fun h => ?_, fun _ => ?_⟩⟩
      · exfalso
        cases hz : M.2 == 0 with
        | false => rw [hz] at h; cases h
        | true =>
          obtain ⟨v1, v2⟩ := hM1 (eq_of_beq hz)
          rw [hz, fitT _ v1] at h
          by_cases h3 : load < 3000
          · rw [decide_eq_true h3, decide_eq_true (v2 h3)] at h
            simp at h
          · rw [decide_eq_false h3] at h
            simp at h
      clear htot j1 j2 i2 hM hM1 mb hb0
      refine ⟨⟨by omega, by omega, by omega, by omega, by decide, by omega, by omega⟩, (0, 0, 1), ⟨rfl, rfl, rfl, trivial, rfl, trivial, trivial, trivial⟩, ⟨Nat.zero_le _, by unfold asI; simp, rfl⟩, ?_⟩
      rintro ⟨k, a, b⟩ ⟨i1, i2, i3⟩
      dsimp only at i1 i2 i3 ⊢
      have hVA := hall _ hV.1 hV.2
      have a3 := asI_bd i2 (by omega)
      dsimp only at a3
      refine ⟨fun hk => ?_, fun hk => ?_⟩
      · have hk := hlt0 _ _ hk
        have hmem := getD_memL hk
        obtain ⟨⟨y1, y2⟩, y3, y4⟩ := at_thin hVA ht hmem
        have hst := asI_step hVA ht i2 hmem
        have hdr := aSumGo_drop (v := voltS l n) (s := (a, b)) hk
        have hlk := b2 _ hmem
        have hfa := fitT _ (fitA _ hmem _ hV.1 hV.2)
        have hsb := asI_bd hst (by omega)
        rw [hxa _ hmem _ (hVA _ hmem).2]
        dsimp only at hst hdr hsb ⊢
        rw [hfa]
        have j3 := i3.trans hdr
        generalize atS (l.getD k []) (voltS l n) = S at *
        have m3 := mul_bd (a := a) (b := S.2) (A := 1000000000) (B := 60) ⟨by omega, by omega⟩ ⟨by omega, by omega⟩
        have m4 := mul_bd (a := S.1) (b := b) (A := 60000) (B := 216000) ⟨by omega, by omega⟩ ⟨by omega, by omega⟩
        refine ⟨⟨by omega, by omega, hlk⟩, fun h => ?_, fun _ => ⟨⟨by omega, by omega, by omega, by omega⟩, by omega, (k + 1, _, _), ⟨trivial, rfl, rfl, trivial, by simp, trivial, trivial, trivial⟩, ⟨by dsimp only; omega, hst, j3⟩, by dsimp only; omega⟩⟩
        rw [decide_eq_false (by omega)] at h
        simp at h
      · have hk := hge0 _ _ hk
        have hk : k = l.length := by omega
        subst hk
        rw [List.drop_length] at i3
        have i3 : aSumS l (voltS l n) = (a, b) := i3
        refine ⟨by omega, fun _ => trivial, fun hm => ?_⟩
        have hm : a.tmod b = 0 := bne_eq_false_iff_eq.1 hm
        have hab : a = a.tdiv b * b := by
          have := Int.mul_tdiv_add_tmod a b
          rw [hm, Int.add_zero, Int.mul_comm] at this
          exact this.symm
        have hLb : -3000 ≤ a.tdiv b ∧ a.tdiv b ≤ 3000 := by
          have r1 : a.tdiv b * b ≤ 3000 * b := by omega
          have r2 : -3000 * b ≤ a.tdiv b * b := by omega
          exact ⟨Int.le_of_mul_le_mul_right r2 (by omega), Int.le_of_mul_le_mul_right r1 (by omega)⟩
        have hhit : sgS l (a.tdiv b) (voltS l n) = 0 := hit_of hVA (by rw [i3]; exact hab)
        have hcr := cross_hit hl hV.1 hV.2 hhit
        have hp1 : ∀ v : Int, plusS (v, 1) (0, 1) = (v, 1) := fun v => by
          rw [plus_int (show (0 : Int) < ((0 : Int), (1 : Int)).2 from Int.one_pos)]
          have := lowest_mul (k := v) (n := 1) (by decide)
          simpa using this
        have hxL : xCrossS l (a.tdiv b) = ((voltS l n, 1), 0) := by rw [hxc _ _ _ hLb hcr, hp1]
        have t51 : 0 ≤ n.2.tmod 51 ∧ n.2.tmod 51 < 51 := by
          rw [Int.tmod_eq_emod_of_nonneg n2.1]
          omega
        generalize a.tdiv b = L at *
        rw [hxL]
        have hm0 : l.getD 0 [] ∈ l := getD_mem l1
        have hlk := b2 _ hm0
        refine ⟨⟨b1, b2, by omega, by omega, b1⟩, fun h => by simp at h, fun _ => ⟨⟨by omega, by decide⟩, ⟨by omega, by omega, hlk⟩, ?_⟩⟩
        have hmf := moved_facts (x := l.getD 0 []) (b := n.2.tmod 51) (l2 _ hm0) (by omega)
        generalize movedF (l.getD 0 []) (n.2.tmod 51) = MV at hmf ⊢
        obtain ⟨mv1, mv2⟩ := MV
        dsimp only at hmf ⊢
        rcases hmf with ⟨rfl, rfl, g3⟩ | rfl
        · skip
          refine ⟨⟨fun _ => by omega, fun _ => by omega, fun _ => by omega⟩, fun h => by simp, fun h => ?_⟩
          have hle : ¬ 3000 < L + n.2.tmod 51 := by
            intro h'
            rw [decide_eq_true h'] at h
            simp at h
          have hr : ∃ r, l = l.getD 0 [] :: r := by
            cases l with
            | nil => simp at l1
            | cons x r => exact ⟨r, rfl⟩
          obtain ⟨r, hr⟩ := hr
          have hd : List.drop 1 (List.take l.length l) = r := by rw [List.take_length, hr]; rfl
          have hlen : r.length + 1 = l.length := by rw [← List.length_cons (a := l.getD 0 []), ← hr]
          have hl' := hl
          rw [hr] at hl'
          have hx0 := up_lines hl' g3
          have hV' := hV
          have hhit' := hhit
          generalize voltS l n = V at *
          have hcr2 := up_hit (r := r) (x := l.getD 0 []) (b := n.2.tmod 51) (v := V) (L := L) hl' g3 (by rw [← hr]; exact hV') (by rw [← hr]; exact hhit')
          have hxU : xCrossS (upL (l.getD 0 []) (n.2.tmod 51) :: r) (L + n.2.tmod 51) = ((V, 1), 0) := by
            have : loadE (upL (l.getD 0 []) (n.2.tmod 51) :: r) (L + n.2.tmod 51) = 0 := by unfold loadE; rw [firstS_zero, firstS_zero]; exact ⟨hx0, withinS_in (by omega), rfl⟩
            unfold xCrossS
            rw [if_neg (by simpa using this), hcr2]
            show (plusS (V, 1) (0, 1), (0 : Int)) = _
            rw [hp1]
          rw [hd, List.nil_append, hxU]
          have hrl : ∀ x : List (Int × Int), x ∈ r → x.length ≤ 1000000 := fun x hx => b2 x (by rw [hr]; simp [hx])
          exact ⟨⟨⟨by omega, by omega, by omega⟩, by omega, hrl, by omega, by omega, by omega, by omega, by simp only [List.length_cons]; omega⟩, by simp⟩
        · exact ⟨⟨fun h => by simp at h, fun h => by simp at h, fun h => by simp at h⟩, fun _ => by simp, fun h => by simp at h⟩
theorem ok9 : Ok Tryz.prog 9 cFlowShared := ok_of_wp mixed g140 (by kernel_rfl) (by kernel_rfl) (fun xx => annShared xx.1 xx.2.1 xx.2.2.1) fun xx => wp9 xx.1 xx.2.1 xx.2.2.1
abbrev G141 : Gam := (9, cFlowShared) :: G140
theorem g141 : GamOk Tryz.prog G141 := .cons ok9 g140
end Go.Proofs.YtacaadhlobbemaaGreatDoor
