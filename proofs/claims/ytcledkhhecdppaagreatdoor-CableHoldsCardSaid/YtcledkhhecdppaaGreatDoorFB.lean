/- Contracts of the functions that the laws reach: part of the proof. -/
import Derived.Test.YtcledkhhecdppaaGreatDoorFA
import Derived.KernelRfl
set_option linter.unusedSimpArgs false
set_option linter.unusedVariables false
set_option maxRecDepth 20000
namespace Go.Proofs.YtcledkhhecdppaaGreatDoor
open Go.Sx
set_option maxHeartbeats 20000000
set_option pp.deepTerms true
set_option pp.maxSteps 1000000
def lateA (p : Option Arr) (a : Arr) : Bool := match p with
 | none => false
 | some b => decide (cmpA a b ≤ 0)
def oneA (p : Option Arr) (a : Arr) : Int := firstS [withinS a.1 0 999999999, endS a.2.1, withinS a.2.2 (-17592186044416) 17592186044416, bif lateA p a then 11 else 0]
def chkGo : Option Arr → List Arr → Int
 | _, [] => 0
 | p, a :: r => if oneA p a = 0 then chkGo (some a) r else oneA p a
def prevA (l : List Arr) (k : Nat) : Option Arr := if k = 0 then none else some (l.getD (k - 1) dA)
def arrE (l : List Arr) : Int := if 2048 < l.length then 5 else chkGo none l
theorem chk_drop {l : List Arr} {k : Nat} (h : k < l.length) : chkGo (prevA l k) (l.drop k) = if oneA (prevA l k) (l.getD k dA) = 0 then chkGo (prevA l (k + 1)) (l.drop (k + 1)) else oneA (prevA l k) (l.getD k dA) := by
 rw [drop_cons (d := dA) h]
 simp only [chkGo]
 have : prevA l (k + 1) = some (l.getD k dA) := by unfold prevA; simp
 rw [this]
theorem prev_succ (l : List Arr) (k : Nat) : prevA l (k + 1) = some (l.getD k dA) := by unfold prevA; simp
theorem late_eq (l : List Arr) (k : Nat) : (bif decide (0 < (k : Int)) then decide (cmpA (l.getD k dA) (l.getD (max 0 ((k : Int) - 1)).toNat dA) ≤ 0) else false) = lateA (prevA l k) (l.getD k dA) := by
 cases k with
 | zero => rfl
 | succ n =>
  rw [prev_succ, decide_eq_true (by omega : (0 : Int) < ((n + 1 : Nat) : Int)), show (max 0 (((n + 1 : Nat) : Int) - 1)).toNat = n by omega]
  rfl
theorem cmpA_le (a b : Arr) : decide (cmpA a b ≤ 0) = (bif decide (a.1 < b.1) then true else bif a.1 == b.1 then (Op.bytesLess a.2.1.toList b.2.1.toList || a.2.1.toList == b.2.1.toList) else false) := by
 by_cases h1 : a.1 < b.1
 ·have e0 : cmpI a.1 b.1 = -1 := by unfold cmpI; rw [if_pos h1]
  have e : cmpA a b = -1 := by unfold cmpA; simp [firstS, e0]
  rw [e, decide_eq_true h1]; rfl
 ·rw [decide_eq_false h1]
  by_cases h2 : b.1 < a.1
  ·have e0 : cmpI a.1 b.1 = 1 := by unfold cmpI; rw [if_neg h1, if_pos h2]
   have e : cmpA a b = 1 := by unfold cmpA; simp [firstS, e0]
   have : (a.1 == b.1) = false := by rw [beq_eq_false_iff_ne]; omega
   rw [e, this]; rfl
  ·have e0 : cmpI a.1 b.1 = 0 := by unfold cmpI; rw [if_neg h1, if_neg h2]
   have e : cmpA a b = cmpB a.2.1 b.2.1 := by
    unfold cmpA
    rw [e0]
    generalize cmpB a.2.1 b.2.1 = q
    simp only [firstS]
    rw [if_pos trivial]
    split
    ·omega
    ·rfl
   have : (a.1 == b.1) = true := by rw [beq_iff_eq]; omega
   rw [e, this]
   simp only [cond_true, cond_false]
   unfold cmpB bLt
   cases hb : Op.bytesLess a.2.1.toList b.2.1.toList with
   | true => rfl
   | false =>
    by_cases he : a.2.1.toList = b.2.1.toList
    ·rw [he]; simp
    ·simp [he]
theorem late_eq' (l : List Arr) (k : Nat) : (bif decide (0 < (k : Int)) then (bif decide ((l.getD k dA).1 < (l.getD ((k : Int) - 1).toNat dA).1) then true else bif (l.getD k dA).1 == (l.getD ((k : Int) - 1).toNat dA).1 then (Op.bytesLess (l.getD k dA).2.1.toList (l.getD ((k : Int) - 1).toNat dA).2.1.toList || (l.getD k dA).2.1.toList == (l.getD ((k : Int) - 1).toNat dA).2.1.toList) else false) else false) = lateA (prevA l k) (l.getD k dA) := by
 cases k with
 | zero => rfl
 | succ n =>
  rw [prev_succ, decide_eq_true (by omega : (0 : Int) < ((n + 1 : Nat) : Int)), show (((n + 1 : Nat) : Int) - 1).toNat = n by omega]
  simp only [cond_true]
  rw [← cmpA_le]; rfl
theorem oneA_three (p : Option Arr) (a : Arr) : oneA p a = if firstS [withinS a.1 0 999999999, endS a.2.1, withinS a.2.2 (-17592186044416) 17592186044416] = 0 then (bif lateA p a then 11 else 0) else firstS [withinS a.1 0 999999999, endS a.2.1, withinS a.2.2 (-17592186044416) 17592186044416] := by
 unfold oneA
 generalize withinS a.1 0 999999999 = x
 generalize endS a.2.1 = y
 generalize withinS a.2.2 (-17592186044416) 17592186044416 = z
 generalize (bif lateA p a then (11 : Int) else 0) = q
 simp only [firstS]
 repeat' split
 all_goals first | rfl | omega
def cArrE : Con := { args := [.val false (.list 107 sArr)], ress := [I], owns := [], pre := fun (l, _) => [l.length ≤ 1000000], spec := fun (l, _) => (arrE l, ()) }
abbrev annArE (l : List Arr) : Ann := { X := Nat, σ := fun k => ⟨1, [(0, .one (.sl 0)), (10, .one (.sl 0)), (11, .one (.int .i64 l.length)), (12, .one (.int .i64 k))], [(0, .imm 107 sArr l)]⟩, inv := fun k => k ≤ l.length ∧ l.length ≤ 2048 ∧ arrE l = chkGo (prevA l k) (l.drop k), mu := fun k => l.length - k }
def vc110_0 (l : List Arr) (x : Nat) := (firstS [withinS (List.getD l x ((0 : Int), ByteArray.mk (Array.mk []), (0 : Int))).1 (0 : Int) (999999999 : Int), endS (List.getD l x ((0 : Int), ByteArray.mk (Array.mk []), (0 : Int))).2.1, withinS (List.getD l x ((0 : Int), ByteArray.mk (Array.mk []), (0 : Int))).2.2 (-17592186044416 : Int) (17592186044416 : Int), bif bif decide ((0 : Int) < (↑x : Int)) then decide (cmpA ((List.getD l x ((0 : Int), ByteArray.mk (Array.mk []), (0 : Int))).1, (List.getD l x ((0 : Int), ByteArray.mk (Array.mk []), (0 : Int))).2.1, (List.getD l x ((0 : Int), ByteArray.mk (Array.mk []), (0 : Int))).2.2) ((List.getD l (Int.toNat (max (0 : Int) ((↑x : Int) - (1 : Int)))) ((0 : Int), ByteArray.mk (Array.mk []), (0 : Int))).1, (List.getD l (Int.toNat (max (0 : Int) ((↑x : Int) - (1 : Int)))) ((0 : Int), ByteArray.mk (Array.mk []), (0 : Int))).2.1, (List.getD l (Int.toNat (max (0 : Int) ((↑x : Int) - (1 : Int)))) ((0 : Int), ByteArray.mk (Array.mk []), (0 : Int))).2.2) ≤ (0 : Int)) else false then (11 : Int) else (0 : Int)] != (0 : Int))
def vc110_1 (l : List Arr) := ((0 : Int), ByteArray.mk (Array.mk []), (0 : Int))
theorem vc110 : ∀ (l : List Arr), wpF Tryz.prog G67 (ann0 (annArE l)) Tryz.f110 cArrE (l, ()) = (List.length l ≤ 1000000 → (decide (2048 < (↑(List.length l) : Int)) = true → 5 = arrE l) ∧ (decide (2048 < (↑(List.length l) : Int)) = false → ∃ (x : Nat), ((↑(List.length l) : Int) = (↑(List.length l) : Int) ∧ 0 = (↑x : Int) ∧ l = l) ∧ (x ≤ List.length l ∧ List.length l ≤ 2048 ∧ arrE l = chkGo (prevA l x) (List.drop x l)) ∧ ∀ (x : Nat), x ≤ List.length l ∧ List.length l ≤ 2048 ∧ arrE l = chkGo (prevA l x) (List.drop x l) → (decide ((↑x : Int) < (↑(List.length l) : Int)) = true → ((0 ≤ (↑x : Int) ∧ (↑x : Int) < (↑(List.length l) : Int)) ∧ 0 ≤ (↑x : Int) ∧ (↑x : Int) < (↑(List.length l) : Int)) ∧ ((decide (0 < (↑x : Int)) = true → (-9223372036854775808) ≤ (↑x : Int) - 1 ∧ (↑x : Int) - (1 : Int) ≤ 9223372036854775807) ∧ (decide (0 < (↑x : Int)) = true → 0 ≤ max 0 ((↑x : Int) - 1) ∧ max 0 ((↑x : Int) - 1) < (↑(List.length l) : Int)) ∧ (decide (0 < (↑x : Int)) = true → 0 ≤ max 0 ((↑x : Int) - 1) ∧ max 0 ((↑x : Int) - 1) < (↑(List.length l) : Int))) ∧ 4 ≤ 1000000 ∧ ((vc110_0 l x) = true → firstS [withinS (List.getD l x (vc110_1 l)).1 0 999999999, endS (List.getD l x (vc110_1 l)).2.1, withinS (List.getD l x (vc110_1 l)).2.2 (-17592186044416) 17592186044416, bif bif decide (0 < (↑x : Int)) then decide (cmpA ((List.getD l x (vc110_1 l)).1, (List.getD l x (vc110_1 l)).2.1, (List.getD l x (vc110_1 l)).2.2) ((List.getD l (Int.toNat (max 0 ((↑x : Int) - 1))) (vc110_1 l)).1, (List.getD l (Int.toNat (max 0 ((↑x : Int) - 1))) (vc110_1 l)).2.1, (List.getD l (Int.toNat (max 0 ((↑x : Int) - 1))) (vc110_1 l)).2.2) ≤ 0) else false then 11 else 0] = arrE l) ∧ ((vc110_0 l x) = false → ((-9223372036854775808) ≤ (↑x : Int) + 1 ∧ (↑x : Int) + (1 : Int) ≤ 9223372036854775807) ∧ ∃ (y : Nat), ((↑(List.length l) : Int) = (↑(List.length l) : Int) ∧ (↑x : Int) + 1 = (↑y : Int) ∧ l = l) ∧ (y ≤ List.length l ∧ List.length l ≤ 2048 ∧ arrE l = chkGo (prevA l y) (List.drop y l)) ∧ List.length l - y < List.length l - x)) ∧ (decide ((↑x : Int) < (↑(List.length l) : Int)) = false → 0 = arrE l))) := by
 intros
 kernel_rfl
theorem wp110 (l : List Arr) : wpF Tryz.prog G67 (ann0 (annArE l)) Tryz.f110 cArrE (l, ()) := by
 refine (vc110 l).mpr ?_
 delta vc110_0 vc110_1
 intro h1
 refine ⟨fun h => ?_, fun h => ?_⟩
 ·have h := of_decide_eq_true h
  unfold arrE; rw [if_pos (by omega)]
 have h : ¬ 2048 < l.length := by have := of_decide_eq_false h; omega
 have eA : arrE l = chkGo none l := by unfold arrE; rw [if_neg h]
 refine ⟨(0 : Nat), ⟨rfl, rfl, rfl⟩, ⟨Nat.zero_le _, by omega, eA⟩, fun (k : Nat) hk => ⟨fun e => ?_, fun e => ?_⟩⟩
 ·have hlt : k < l.length := by simpa using e
  have hd := chk_drop hlt
  have e1 : firstS [withinS (l.getD k dA).1 0 999999999, endS (l.getD k dA).2.1, withinS (l.getD k dA).2.2 (-17592186044416) 17592186044416, bif (bif decide (0 < (k : Int)) then decide (cmpA (l.getD k dA) (l.getD (max 0 ((k : Int) - 1)).toNat dA) ≤ 0) else false) then 11 else 0] = oneA (prevA l k) (l.getD k dA) := by
   rw [late_eq]; rfl
  refine ⟨⟨by omega, by omega⟩, ⟨fun h => by have := of_decide_eq_true h; omega, fun h => by have := of_decide_eq_true h; omega, fun h => by have := of_decide_eq_true h; omega⟩, by omega, fun h => ?_, fun h => ?_⟩
  ·have h : ¬ oneA (prevA l k) (l.getD k dA) = 0 := by rw [← e1]; exact bne_iff_ne.1 h
   rw [hk.2.2, hd, if_neg h]; exact e1
  ·have h : oneA (prevA l k) (l.getD k dA) = 0 := by rw [← e1]; exact bne_eq_false_iff_eq.1 h
   refine ⟨by omega, (k + 1 : Nat), ⟨rfl, by simp, rfl⟩, ⟨by omega, by omega, ?_⟩, by omega⟩
   rw [hk.2.2, hd, if_pos h]
 ·have hge : ¬ k < l.length := by simpa using e
  rw [hk.2.2, List.drop_of_length_le (by omega)]
  rfl
theorem ok110 [Sx.Dr] : Ok Tryz.prog 110 cArrE := ok_of_wp mixed g67 (by kernel_rfl) (by kernel_rfl) (fun xx => ann0 (annArE xx.1)) fun xx => wp110 xx.1
abbrev G68 : Gam := (110, cArrE) :: G67
theorem g68 [Sx.Dr] : GamOk Tryz.prog G68 := .cons ok110 g67
abbrev annArER (l : List Arr) : Ann := { X := Nat, σ := fun k => ⟨1, [(0, .one (.sl 0)), (3, .one (.int .i64 k))], [(0, .imm 130 sArr l)]⟩, inv := fun k => k ≤ l.length ∧ l.length ≤ 2048 ∧ arrE l = chkGo (prevA l k) (l.drop k), mu := fun k => l.length - k }
def cArrER : Con := { args := [.val false (.list 130 sArr)], ress := [I], owns := [], pre := fun (l, _) => [l.length ≤ 1000000], spec := fun (l, _) => (arrE l, ()) }
def vc43_0 (l : List Arr) := ((0 : Int), ByteArray.mk (Array.mk []), (0 : Int))
def vc43_1 (l : List Arr) (x : Nat) := (List.getD l (Int.toNat ((↑x : Int) - (1 : Int))) (vc43_0 l))
def vc43_2 (l : List Arr) (x : Nat) := (bif decide ((0 : Int) < (↑x : Int)) then bif decide ((List.getD l x (vc43_0 l)).1 < (vc43_1 l x).1) then true else bif (List.getD l x (vc43_0 l)).1 == (vc43_1 l x).1 then Op.bytesLess (ByteArray.toList (List.getD l x (vc43_0 l)).2.1) (ByteArray.toList (vc43_1 l x).2.1) || ByteArray.toList (List.getD l x (vc43_0 l)).2.1 == ByteArray.toList (vc43_1 l x).2.1 else false else false)
def vc43_3 (l : List Arr) (x : Nat) := (decide ((0 : Int) < (↑x : Int)) = true ∧ decide ((List.getD l x (vc43_0 l)).1 < (vc43_1 l x).1) = false)
def vc43_4 (l : List Arr) (x : Nat) := ((0 : Int) ≤ (↑x : Int) ∧ (↑x : Int) < (↑(List.length l) : Int))
def vc43_5 (l : List Arr) (x : Nat) := (firstS [withinS (List.getD l x (vc43_0 l)).1 (0 : Int) (999999999 : Int), endS (List.getD l x (vc43_0 l)).2.1, withinS (List.getD l x (vc43_0 l)).2.2 (-17592186044416 : Int) (17592186044416 : Int)] != (0 : Int))
def vc43_6 (l : List Arr) (x : Nat) := (decide ((0 : Int) < (↑x : Int)) = true ∧ decide ((List.getD l x (vc43_0 l)).1 < (vc43_1 l x).1) = false → (0 : Int) ≤ (↑x : Int) - (1 : Int) ∧ (↑x : Int) - (1 : Int) < (↑(List.length l) : Int))
theorem vc43 : ∀ (l : List Arr), wpF Tryz.prog G68 (ann0 (annArER l)) Tryz.f43 cArrER (l, ()) = (List.length l ≤ 1000000 → (decide (2048 < (↑(List.length l) : Int)) = true → 5 = arrE l) ∧ (decide (2048 < (↑(List.length l) : Int)) = false → ∃ (x : Nat), (0 = (↑x : Int) ∧ l = l) ∧ (x ≤ List.length l ∧ List.length l ≤ 2048 ∧ arrE l = chkGo (prevA l x) (List.drop x l)) ∧ ∀ (x : Nat), x ≤ List.length l ∧ List.length l ≤ 2048 ∧ arrE l = chkGo (prevA l x) (List.drop x l) → (decide ((↑x : Int) < (↑(List.length l) : Int)) = true → ((vc43_4 l x) ∧ (vc43_4 l x) ∧ (vc43_4 l x) ∧ (vc43_4 l x) ∧ (vc43_4 l x) ∧ (vc43_4 l x) ∧ 3 ≤ 1000000) ∧ ((vc43_5 l x) = true → firstS [withinS (List.getD l x (vc43_0 l)).1 0 999999999, endS (List.getD l x (vc43_0 l)).2.1, withinS (List.getD l x (vc43_0 l)).2.2 (-17592186044416) 17592186044416] = arrE l) ∧ ((vc43_5 l x) = false → ((decide (0 < (↑x : Int)) = true → 0 ≤ (↑x : Int) ∧ (↑x : Int) < (↑(List.length l) : Int)) ∧ (decide (0 < (↑x : Int)) = true → 0 ≤ (↑x : Int) ∧ (↑x : Int) < (↑(List.length l) : Int)) ∧ (decide (0 < (↑x : Int)) = true → (-9223372036854775808) ≤ (↑x : Int) - 1 ∧ (↑x : Int) - (1 : Int) ≤ 9223372036854775807) ∧ (decide (0 < (↑x : Int)) = true → 0 ≤ (↑x : Int) - 1 ∧ (↑x : Int) - 1 < (↑(List.length l) : Int)) ∧ (decide (0 < (↑x : Int)) = true → 0 ≤ (↑x : Int) - 1 ∧ (↑x : Int) - 1 < (↑(List.length l) : Int)) ∧ (decide (0 < (↑x : Int)) = true ∧ decide ((List.getD l x (vc43_0 l)).1 < (vc43_1 l x).1) = false → 0 ≤ (↑x : Int) ∧ (↑x : Int) < (↑(List.length l) : Int)) ∧ (decide (0 < (↑x : Int)) = true ∧ decide ((List.getD l x (vc43_0 l)).1 < (vc43_1 l x).1) = false → 0 ≤ (↑x : Int) ∧ (↑x : Int) < (↑(List.length l) : Int)) ∧ (decide (0 < (↑x : Int)) = true ∧ decide ((List.getD l x (vc43_0 l)).1 < (vc43_1 l x).1) = false → (-9223372036854775808) ≤ (↑x : Int) - 1 ∧ (↑x : Int) - (1 : Int) ≤ 9223372036854775807) ∧ (vc43_6 l x) ∧ (vc43_6 l x) ∧ ((vc43_3 l x) ∧ ((List.getD l x (vc43_0 l)).1 == (vc43_1 l x).1) = true → 0 ≤ (↑x : Int) ∧ (↑x : Int) < (↑(List.length l) : Int)) ∧ ((vc43_3 l x) ∧ ((List.getD l x (vc43_0 l)).1 == (vc43_1 l x).1) = true → 0 ≤ (↑x : Int) ∧ (↑x : Int) < (↑(List.length l) : Int)) ∧ ((vc43_3 l x) ∧ ((List.getD l x (vc43_0 l)).1 == (vc43_1 l x).1) = true → (-9223372036854775808) ≤ (↑x : Int) - 1 ∧ (↑x : Int) - (1 : Int) ≤ 9223372036854775807) ∧ ((vc43_3 l x) ∧ ((List.getD l x (vc43_0 l)).1 == (vc43_1 l x).1) = true → 0 ≤ (↑x : Int) - 1 ∧ (↑x : Int) - 1 < (↑(List.length l) : Int)) ∧ ((vc43_3 l x) ∧ ((List.getD l x (vc43_0 l)).1 == (vc43_1 l x).1) = true → 0 ≤ (↑x : Int) - 1 ∧ (↑x : Int) - 1 < (↑(List.length l) : Int))) ∧ ((vc43_2 l x) = true → 11 = arrE l) ∧ ((vc43_2 l x) = false → ((-9223372036854775808) ≤ (↑x : Int) + 1 ∧ (↑x : Int) + (1 : Int) ≤ 9223372036854775807) ∧ ∃ (y : Nat), ((↑x : Int) + 1 = (↑y : Int) ∧ l = l) ∧ (y ≤ List.length l ∧ List.length l ≤ 2048 ∧ arrE l = chkGo (prevA l y) (List.drop y l)) ∧ List.length l - y < List.length l - x))) ∧ (decide ((↑x : Int) < (↑(List.length l) : Int)) = false → 0 = arrE l))) := by
 intros
 kernel_rfl
theorem wp43 (l : List Arr) : wpF Tryz.prog G68 (ann0 (annArER l)) Tryz.f43 cArrER (l, ()) := by
 refine (vc43 l).mpr ?_
 delta vc43_0 vc43_1 vc43_2 vc43_3 vc43_4 vc43_5 vc43_6
 intro h1
 refine ⟨fun h => ?_, fun h => ?_⟩
 ·have h := of_decide_eq_true h
  unfold arrE; rw [if_pos (by omega)]
 have h : ¬ 2048 < l.length := by have := of_decide_eq_false h; omega
 have eA : arrE l = chkGo none l := by unfold arrE; rw [if_neg h]
 refine ⟨(0 : Nat), ⟨rfl, rfl⟩, ⟨Nat.zero_le _, by omega, eA⟩, fun (k : Nat) hk => ⟨fun e => ?_, fun e => ?_⟩⟩
 ·have hlt : k < l.length := by simpa using e
  have hd := chk_drop hlt
  have h3 := oneA_three (prevA l k) (l.getD k dA)
  have kk : 0 ≤ (k : Int) ∧ (k : Int) < l.length := by omega
  have km : -9223372036854775808 ≤ (k : Int) - 1 ∧ (k : Int) - 1 ≤ 9223372036854775807 := by omega
  have kp : decide (0 < (k : Int)) = true → 0 ≤ (k : Int) - 1 ∧ (k : Int) - 1 < l.length := fun h => by have := of_decide_eq_true h; omega
  refine ⟨⟨kk, kk, kk, kk, kk, kk, by omega⟩, fun h => ?_, fun h => ⟨⟨fun _ => kk, fun _ => kk, fun _ => km, kp, kp, fun _ => kk, fun _ => kk, fun _ => km, fun q => kp q.1, fun q => kp q.1, fun _ => kk, fun _ => kk, fun _ => km, fun q => kp q.1.1, fun q => kp q.1.1⟩, fun h' => ?_, fun h' => ?_⟩⟩
  ·have h := bne_iff_ne.1 h
   have h3 : oneA (prevA l k) (l.getD k dA) = _ := h3
   rw [if_neg h] at h3
   rw [hk.2.2, hd, h3, if_neg h]
  ·have h := bne_eq_false_iff_eq.1 h
   have h' := (late_eq' l k).symm.trans h'
   rw [if_pos h, h'] at h3
   rw [hk.2.2, hd, h3, if_neg (by decide)]
   rfl
  ·have h := bne_eq_false_iff_eq.1 h
   have h' := (late_eq' l k).symm.trans h'
   rw [if_pos h, h'] at h3
   refine ⟨by omega, (k + 1 : Nat), ⟨by simp, rfl⟩, ⟨by omega, by omega, ?_⟩, by omega⟩
   rw [hk.2.2, hd, h3]
   exact if_pos rfl
 ·have hge : ¬ k < l.length := by simpa using e
  rw [hk.2.2, List.drop_of_length_le (by omega)]
  rfl
theorem ok43 [Sx.Dr] : Ok Tryz.prog 43 cArrER := ok_of_wp mixed g68 (by kernel_rfl) (by kernel_rfl) (fun xx => ann0 (annArER xx.1)) fun xx => wp43 xx.1
abbrev G69 : Gam := (43, cArrER) :: G68
theorem g69 [Sx.Dr] : GamOk Tryz.prog G69 := .cons ok43 g68
set_option maxHeartbeats 20000000
def isEnd (e : ByteArray) (a : Arr) : Bool := a.2.1.toList == e.toList
def findA (e : ByteArray) (l : List Arr) : Option Arr := l.find? (isEnd e)
def idxGo (f : Arr → Bool) : List Arr → Nat → Int
 | [], _ => -1
 | a :: r, k => if f a = true then k else idxGo f r (k + 1)
theorem idx_find (f : Arr → Bool) : ∀ (l : List Arr) (k : Nat), (idxGo f l k = -1 ∧ l.find? f = none) ∨ ∃ i, i < l.length ∧ idxGo f l k = ((k + i : Nat) : Int) ∧ l.find? f = some (l.getD i dA)
 | [], k => .inl ⟨rfl, rfl⟩
 | a :: r, k => by
  simp only [idxGo]
  cases h : f a with
  | true => exact .inr ⟨0, by simp, by simp, by simp [h]⟩
  | false =>
   rcases idx_find f r (k + 1) with ⟨h1, h2⟩ | ⟨i, h1, h2, h3⟩
   ·exact .inl ⟨by simpa using h1, by simp [h, h2]⟩
   ·refine .inr ⟨i + 1, by simp only [List.length_cons]; omega, ?_, by simp [h, h3]⟩
    simp only [Bool.false_eq_true, if_false]
    rw [h2]; congr 1; omega
theorem idx_drop {f : Arr → Bool} {l : List Arr} {k : Nat} (h : k < l.length) : idxGo f (l.drop k) k = if f (l.getD k dA) = true then (k : Int) else idxGo f (l.drop (k + 1)) (k + 1) := by
 rw [drop_cons (d := dA) h]; rfl
def cIsEnd : Con := { args := [aA, .ref 9 .str], ress := [Bo], owns := [], pre := fun _ => [], spec := fun (a, e, _) => (isEnd e a, ()) }
theorem vc155 : ∀ (a : Arr) (e : ByteArray), wpF Tryz.prog G69 (na ()) Tryz.f155 cIsEnd (a, e, ()) = ((ByteArray.toList a.2.1 == ByteArray.toList e) = isEnd e a) := by
 intros
 kernel_rfl
theorem wp155 (a : Arr) (e : ByteArray) : wpF Tryz.prog G69 (na ()) Tryz.f155 cIsEnd (a, e, ()) := by
 refine (vc155 a e).mpr ?_
 rfl
theorem ok155 [Sx.Dr] : Ok Tryz.prog 155 cIsEnd := ok_of_wp mixed g69 (by kernel_rfl) (by kernel_rfl) na fun xx => wp155 xx.1 xx.2.1
abbrev G70 : Gam := (155, cIsEnd) :: G69
theorem g70 [Sx.Dr] : GamOk Tryz.prog G70 := .cons ok155 g69
def cIdx : Con := { args := [.val false (.list 107 sArr), .fn [(true, sArr)] Bo], ress := [I], owns := [], pre := fun (l, (q, _), _) => [l.length ≤ 1000000, ∀ x ∈ l, conj (q (x, ()))], spec := fun (l, (_, f), _) => (idxGo (fun x => f (x, ())) l 0, ()) }
abbrev annIdx (l : List Arr) (q : Arr × Unit → List Prop) (f : Arr × Unit → Bool) : Ann := { X := Nat, σ := fun k => ⟨2, [(0, .one (.sl 0)), (1, .one (.fv 1)), (7, .one (.int .i64 l.length)), (8, .one (.int .i64 k))], [(0, .imm 107 sArr l), (1, .afn [(true, sArr)] Bo q f)]⟩, inv := fun k => k ≤ l.length ∧ idxGo (fun x => f (x, ())) l 0 = idxGo (fun x => f (x, ())) (l.drop k) k, mu := fun k => l.length - k }
def vc154_0 (l : List Arr) (q : Arr × Unit → List Prop) (f : Arr × Unit → Bool) (x : Nat) := (((List.getD l x ((0 : Int), ByteArray.mk (Array.mk []), (0 : Int))).1, (List.getD l x ((0 : Int), ByteArray.mk (Array.mk []), (0 : Int))).2.1, (List.getD l x ((0 : Int), ByteArray.mk (Array.mk []), (0 : Int))).2.2), PUnit.unit)
theorem vc154 : ∀ (l : List Arr) (q : Arr × Unit → List Prop) (f : Arr × Unit → Bool), wpF Tryz.prog G70 (ann0 (annIdx l q f)) Tryz.f154 cIdx (l, (q, f), ()) = (List.length l ≤ 1000000 → (∀ (x : Int × ByteArray × Int), x ∈ l → conj (q (x, PUnit.unit))) → ∃ (x : Nat), ((↑(List.length l) : Int) = (↑(List.length l) : Int) ∧ 0 = (↑x : Int) ∧ l = l ∧ (fun (x : (Int × ByteArray × Int) × PUnit) => q x) = q ∧ (fun (x : (Int × ByteArray × Int) × PUnit) => f x) = f) ∧ (x ≤ List.length l ∧ idxGo (fun (x : Arr) => f (x, PUnit.unit)) l 0 = idxGo (fun (x : Arr) => f (x, PUnit.unit)) (List.drop x l) x) ∧ ∀ (x : Nat), x ≤ List.length l ∧ idxGo (fun (x : Arr) => f (x, PUnit.unit)) l 0 = idxGo (fun (x : Arr) => f (x, PUnit.unit)) (List.drop x l) x → (decide ((↑x : Int) < (↑(List.length l) : Int)) = true → ((0 ≤ (↑x : Int) ∧ (↑x : Int) < (↑(List.length l) : Int)) ∧ (0 ≤ (↑x : Int) ∧ (↑x : Int) < (↑(List.length l) : Int)) ∧ conj (q (vc154_0 l q f x))) ∧ (f (vc154_0 l q f x) = true → (↑x : Int) = idxGo (fun (x : Arr) => f (x, PUnit.unit)) l 0) ∧ (f (vc154_0 l q f x) = false → ((-9223372036854775808) ≤ (↑x : Int) + 1 ∧ (↑x : Int) + (1 : Int) ≤ 9223372036854775807) ∧ ∃ (y : Nat), ((↑(List.length l) : Int) = (↑(List.length l) : Int) ∧ (↑x : Int) + 1 = (↑y : Int) ∧ l = l ∧ (fun (x : (Int × ByteArray × Int) × PUnit) => q x) = q ∧ (fun (x : (Int × ByteArray × Int) × PUnit) => f x) = f) ∧ (y ≤ List.length l ∧ idxGo (fun (x : Arr) => f (x, PUnit.unit)) l 0 = idxGo (fun (x : Arr) => f (x, PUnit.unit)) (List.drop y l) y) ∧ List.length l - y < List.length l - x)) ∧ (decide ((↑x : Int) < (↑(List.length l) : Int)) = false → (-1) = idxGo (fun (x : Arr) => f (x, PUnit.unit)) l 0)) := by
 intros
 kernel_rfl
theorem wp154 (l : List Arr) (q : Arr × Unit → List Prop) (f : Arr × Unit → Bool) : wpF Tryz.prog G70 (ann0 (annIdx l q f)) Tryz.f154 cIdx (l, (q, f), ()) := by
 refine (vc154 l q f).mpr ?_
 delta vc154_0
 intro h1 hq
 refine ⟨(0 : Nat), ⟨rfl, rfl, rfl, rfl, rfl⟩, ⟨Nat.zero_le _, rfl⟩, fun (k : Nat) hk => ⟨fun e => ?_, fun e => ?_⟩⟩
 ·have hlt : k < l.length := by simpa using e
  have hd := idx_drop (f := fun x => f (x, ())) hlt
  refine ⟨⟨by omega, by omega, hq (l.getD k dA) (getD_mem hlt)⟩, fun h => ?_, fun h => ?_⟩
  ·have h : f (l.getD k dA, ()) = true := h
   rw [hk.2, hd, if_pos h]
  ·have h : f (l.getD k dA, ()) = false := h
   refine ⟨by omega, (k + 1 : Nat), ⟨rfl, by simp, rfl, rfl, rfl⟩, ⟨by omega, ?_⟩, by omega⟩
   rw [hk.2, hd, if_neg (by rw [h]; decide)]
 ·have hge : ¬ k < l.length := by simpa using e
  rw [hk.2, List.drop_of_length_le (by omega)]
  rfl
theorem ok154 [Sx.Dr] : Ok Tryz.prog 154 cIdx := ok_of_wp mixed g70 (by kernel_rfl) (by kernel_rfl) (fun xx => ann0 (annIdx xx.1 xx.2.1.1 xx.2.1.2)) fun xx => wp154 xx.1 xx.2.1.1 xx.2.1.2
abbrev G71 : Gam := (154, cIdx) :: G70
theorem g71 [Sx.Dr] : GamOk Tryz.prog G71 := .cons ok154 g70
def cAt : Con := { args := [.val false (.list 107 sArr), aS], ress := [(true, sArr), Bo], owns := [], pre := fun (l, _) => [l.length ≤ 1000000], spec := fun (l, e, _) => ((findA e l).getD dA, (findA e l).isSome, ()) }
theorem vc115 : ∀ (l : List Arr) (e : ByteArray), wpF Tryz.prog G71 (na ()) Tryz.f115 cAt (l, e, ()) = (List.length l ≤ 1000000 → (List.length l ≤ 1000000 ∧ ∀ (x : Int × ByteArray × Int), x ∈ l → True) ∧ (decide (idxGo (fun (x : Arr) => isEnd e x) l 0 < 0) = true → (0, ByteArray.mk (Array.mk []), 0) = Option.getD (findA e l) dA ∧ false = Option.isSome (findA e l)) ∧ (decide (idxGo (fun (x : Arr) => isEnd e x) l 0 < 0) = false → ((0 ≤ idxGo (fun (x : Arr) => isEnd e x) l 0 ∧ idxGo (fun (x : Arr) => isEnd e x) l 0 < (↑(List.length l) : Int)) ∧ 0 ≤ idxGo (fun (x : Arr) => isEnd e x) l 0 ∧ idxGo (fun (x : Arr) => isEnd e x) l 0 < (↑(List.length l) : Int)) ∧ ((List.getD l (Int.toNat (idxGo (fun (x : Arr) => isEnd e x) l 0)) (0, ByteArray.mk (Array.mk []), 0)).1, (List.getD l (Int.toNat (idxGo (fun (x : Arr) => isEnd e x) l 0)) (0, ByteArray.mk (Array.mk []), 0)).2.1, (List.getD l (Int.toNat (idxGo (fun (x : Arr) => isEnd e x) l 0)) (0, ByteArray.mk (Array.mk []), 0)).2.2) = Option.getD (findA e l) dA ∧ true = Option.isSome (findA e l))) := by
 intros
 kernel_rfl
theorem wp115 (l : List Arr) (e : ByteArray) : wpF Tryz.prog G71 (na ()) Tryz.f115 cAt (l, e, ()) := by
 refine (vc115 l e).mpr ?_
 intro h1
 have hi := idx_find (isEnd e) l 0
 have hf : findA e l = l.find? (isEnd e) := rfl
 rw [hf]
 refine ⟨⟨h1, fun _ _ => trivial⟩, fun h => ?_, fun h => ?_⟩
 ·have h : idxGo (isEnd e) l 0 < 0 := of_decide_eq_true h
  rcases hi with ⟨_, h2⟩ | ⟨i, _, h2, _⟩
  ·rw [h2]; exact ⟨rfl, rfl⟩
  ·rw [h2] at h; omega
 ·have h : ¬ idxGo (isEnd e) l 0 < 0 := of_decide_eq_false h
  rcases hi with ⟨h2, _⟩ | ⟨i, h3, h2, h4⟩
  ·rw [h2] at h; omega
  ·rw [Nat.zero_add] at h2
   have b : 0 ≤ idxGo (isEnd e) l 0 ∧ idxGo (isEnd e) l 0 < l.length := by rw [h2]; omega
   refine ⟨⟨b, b⟩, ?_, by rw [h4]; rfl⟩
   show l.getD (idxGo (isEnd e) l 0).toNat dA = _
   rw [h4, h2]; rfl
theorem ok115 [Sx.Dr] : Ok Tryz.prog 115 cAt := ok_of_wp mixed g71 (by kernel_rfl) (by kernel_rfl) na fun xx => wp115 xx.1 xx.2.1
abbrev G72 : Gam := (115, cAt) :: G71
theorem g72 [Sx.Dr] : GamOk Tryz.prog G72 := .cons ok115 g71
def firstE (l : List Arr) (e : ByteArray) : Int := firstS [arrE l, endS e]
def firstF (l : List Arr) (e : ByteArray) : Arr := if firstE l e = 0 then (findA e l).getD dA else dA
def firstEE (l : List Arr) (e : ByteArray) : Int := if firstE l e = 0 then (if (findA e l).isSome = true then 0 else 7) else firstE l e
def cFirstA : Con := { args := [.val false (.list 107 sArr), aS], ress := [(true, sArr), I], owns := [], pre := fun (l, _) => [l.length ≤ 1000000], spec := fun (l, e, _) => (firstF l e, firstEE l e, ()) }
theorem vc63 : ∀ (l : List Arr) (e : ByteArray), wpF Tryz.prog G72 (na ()) Tryz.f63 cFirstA (l, e, ()) = (List.length l ≤ 1000000 → (List.length l ≤ 1000000 ∧ 2 ≤ 1000000) ∧ ((firstS [arrE l, endS e] != 0) = true → (0, ByteArray.mk (Array.mk []), 0) = firstF l e ∧ firstS [arrE l, endS e] = firstEE l e) ∧ ((firstS [arrE l, endS e] != 0) = false → List.length l ≤ 1000000 ∧ ((Option.getD (findA e l) dA).1, (Option.getD (findA e l) dA).2.1, (Option.getD (findA e l) dA).2.2) = firstF l e ∧ (bif !Option.isSome (findA e l) then 7 else 0) = firstEE l e)) := by
 intros
 kernel_rfl
theorem wp63 (l : List Arr) (e : ByteArray) : wpF Tryz.prog G72 (na ()) Tryz.f63 cFirstA (l, e, ()) := by
 refine (vc63 l e).mpr ?_
 intro h1
 unfold firstF firstEE firstE
 refine ⟨⟨h1, by omega⟩, fun h => ?_, fun h => ?_⟩
 ·have h := bne_iff_ne.1 h
  rw [if_neg h, if_neg h]; exact ⟨rfl, rfl⟩
 ·have h := bne_eq_false_iff_eq.1 h
  rw [if_pos h, if_pos h]
  refine ⟨h1, rfl, ?_⟩
  cases (findA e l).isSome <;> rfl
theorem ok63 [Sx.Dr] : Ok Tryz.prog 63 cFirstA := ok_of_wp mixed g72 (by kernel_rfl) (by kernel_rfl) na fun xx => wp63 xx.1 xx.2.1
abbrev G73 : Gam := (63, cFirstA) :: G72
theorem g73 [Sx.Dr] : GamOk Tryz.prog G73 := .cons ok63 g72
def cFirstAR : Con := { args := [.val false (.list 130 sArr), aS], ress := [(true, sArr), I], owns := [], pre := fun (l, _) => [l.length ≤ 1000000], spec := fun (l, e, _) => ((findA e l).getD dA, if (findA e l).isSome = true then 0 else 7, ()) }
abbrev annFiR (l : List Arr) (e : ByteArray) : Ann := { X := Nat, σ := fun k => ⟨2, [(0, .one (.sl 0)), (1, .one (.str e)), (4, .one (.ptr 1 0)), (6, .one (.int .i64 k))], [(0, .imm 130 sArr l), (1, .box 130 [.int .i64 0, .str ⟨⟨[]⟩⟩, .int .i64 0])]⟩, inv := fun k => k ≤ l.length ∧ findA e l = findA e (l.drop k), mu := fun k => l.length - k }
theorem vc65 : ∀ (l : List Arr) (e : ByteArray), wpF Tryz.prog G73 (ann0 (annFiR l e)) Tryz.f65 cFirstAR (l, e, ()) = (List.length l ≤ (1000000 : Nat) → ∃ (x : Nat), (e = e ∧ (0 : Int) = (↑x : Int) ∧ l = l ∧ (0 : Int) = (0 : Int) ∧ ByteArray.mk (Array.mk []) = ByteArray.mk (Array.mk []) ∧ (0 : Int) = (0 : Int)) ∧ (x ≤ List.length l ∧ findA e l = findA e (List.drop x l)) ∧ ∀ (x : Nat), x ≤ List.length l ∧ findA e l = findA e (List.drop x l) → (decide ((↑x : Int) < (↑(List.length l) : Int)) = true → (((0 : Int) ≤ (↑x : Int) ∧ (↑x : Int) < (↑(List.length l) : Int)) ∧ (0 : Int) ≤ (↑x : Int) ∧ (↑x : Int) < (↑(List.length l) : Int)) ∧ ((ByteArray.toList (List.getD l x ((0 : Int), ByteArray.mk (Array.mk []), (0 : Int))).2.1 == ByteArray.toList e) = true → (((0 : Int) ≤ (↑x : Int) ∧ (↑x : Int) < (↑(List.length l) : Int)) ∧ (0 : Int) ≤ (↑x : Int) ∧ (↑x : Int) < (↑(List.length l) : Int)) ∧ ((List.getD l x ((0 : Int), ByteArray.mk (Array.mk []), (0 : Int))).1, (List.getD l x ((0 : Int), ByteArray.mk (Array.mk []), (0 : Int))).2.1, (List.getD l x ((0 : Int), ByteArray.mk (Array.mk []), (0 : Int))).2.2) = Option.getD (findA e l) dA ∧ (0 : Int) = if Option.isSome (findA e l) = true then (0 : Int) else (7 : Int)) ∧ ((ByteArray.toList (List.getD l x ((0 : Int), ByteArray.mk (Array.mk []), (0 : Int))).2.1 == ByteArray.toList e) = false → ((-9223372036854775808 : Int) ≤ (↑x : Int) + (1 : Int) ∧ (↑x : Int) + (1 : Int) ≤ (9223372036854775807 : Int)) ∧ ∃ (y : Nat), (e = e ∧ (↑x : Int) + (1 : Int) = (↑y : Int) ∧ l = l ∧ (0 : Int) = (0 : Int) ∧ ByteArray.mk (Array.mk []) = ByteArray.mk (Array.mk []) ∧ (0 : Int) = (0 : Int)) ∧ (y ≤ List.length l ∧ findA e l = findA e (List.drop y l)) ∧ List.length l - y < List.length l - x)) ∧ (decide ((↑x : Int) < (↑(List.length l) : Int)) = false → ((0 : Int), ByteArray.mk (Array.mk []), (0 : Int)) = Option.getD (findA e l) dA ∧ (7 : Int) = if Option.isSome (findA e l) = true then (0 : Int) else (7 : Int))) := by
 intros
 kernel_rfl
theorem wp65 (l : List Arr) (e : ByteArray) : wpF Tryz.prog G73 (ann0 (annFiR l e)) Tryz.f65 cFirstAR (l, e, ()) := by
 refine (vc65 l e).mpr ?_
 intro h1
 refine ⟨(0 : Nat), ⟨rfl, rfl, rfl, rfl, rfl, rfl⟩, ⟨Nat.zero_le _, rfl⟩, fun (k : Nat) hk => ⟨fun h => ?_, fun h => ?_⟩⟩
 ·have hlt : k < l.length := by simpa using h
  have hd : findA e (l.drop k) = if isEnd e (l.getD k dA) = true then some (l.getD k dA) else findA e (l.drop (k + 1)) := by
   rw [drop_cons (d := dA) hlt]
   unfold findA
   rw [List.find?_cons]
   cases isEnd e (l.getD k dA) <;> rfl
  refine ⟨⟨by omega, by omega⟩, fun h2 => ?_, fun h2 => ?_⟩
  ·have h2 : isEnd e (l.getD k dA) = true := h2
   rw [if_pos h2] at hd
   rw [hk.2, hd]
   exact ⟨⟨by omega, by omega⟩, rfl, rfl⟩
  ·have h2 : isEnd e (l.getD k dA) = false := h2
   rw [if_neg (by rw [h2]; decide)] at hd
   refine ⟨by omega, (k + 1 : Nat), ⟨rfl, by simp, rfl, rfl, rfl, rfl⟩, ⟨by omega, ?_⟩, by omega⟩
   rw [hk.2, hd]
 ·have hge : ¬ k < l.length := by simpa using h
  rw [hk.2, List.drop_of_length_le (by omega)]
  exact ⟨rfl, rfl⟩
theorem ok65 [Sx.Dr] : Ok Tryz.prog 65 cFirstAR := ok_of_wp mixed g73 (by kernel_rfl) (by kernel_rfl) (fun xx => ann0 (annFiR xx.1 xx.2.1)) fun xx => wp65 xx.1 xx.2.1
abbrev G74 : Gam := (65, cFirstAR) :: G73
theorem g74 [Sx.Dr] : GamOk Tryz.prog G74 := .cons ok65 g73
set_option maxHeartbeats 20000000
def isA (e : ByteArray) : Bool := e.toList == sA.toList
def isB (e : ByteArray) : Bool := e.toList == sB.toList
theorem not_both (e : ByteArray) (h : isB e = true) : isA e = false := by
 have h : e.toList = sB.toList := eq_of_beq h
 unfold isA; rw [h, Lib.toList_data, Lib.toList_data]; rfl
def stepF (e : ByteArray) (s : Int) (i : Nat) (r : Int) (p : Int × Int) : Int × Int :=
 bif (bif isB e then decide (s ≤ (i : Int)) else false) then (p.1 * (8 + r), p.2 * 8) else bif (bif isA e then decide ((i : Int) < s) else false) then (p.1 * (8 - r), p.2 * 8) else p
def facGo (e : ByteArray) (s : Int) : Nat → List Int → Int × Int → Int × Int
 | _, [], p => p
 | i, r :: l, p => facGo e s (i + 1) l (stepF e s i r p)
def factS (c : Cab) (s : Int) (e : ByteArray) : Int × Int := facGo e s 0 c.2.1 (1, 1)
theorem fac_drop {e : ByteArray} {s : Int} {l : List Int} {k : Nat} {p : Int × Int} (h : k < l.length) : facGo e s k (l.drop k) p = facGo e s (k + 1) (l.drop (k + 1)) (stepF e s k (l.getD k 0) p) := by
 rw [drop_cons (d := (0 : Int)) h]; rfl
def facOk (k : Nat) (p : Int × Int) : Prop := (0 ≤ p.1 ∧ p.1 ≤ 16 ^ k) ∧ ∃ j, j ≤ k ∧ p.2 = 8 ^ j
theorem facOk_step {k i : Nat} {e : ByteArray} {s r : Int} {p : Int × Int} (h : facOk k p) (hr : -8 ≤ r ∧ r ≤ 8) : facOk (k + 1) (stepF e s i r p) := by
 obtain ⟨⟨h1, h2⟩, j, hj, h3⟩ := h
 have hp : (16 : Int) ^ (k + 1) = 16 ^ k * 16 := Int.pow_succ ..
 have h0 : (0 : Int) ≤ 16 ^ k := Int.le_trans h1 h2
 have key : ∀ q : Int, 0 ≤ q ∧ q ≤ 16 → facOk (k + 1) (p.1 * q, p.2 * 8) := fun q hq => by
  refine ⟨⟨Int.mul_nonneg h1 hq.1, ?_⟩, j + 1, by omega, ?_⟩
  ·rw [hp]; exact Int.mul_le_mul h2 hq.2 hq.1 h0
  ·show p.2 * 8 = _
   rw [h3, Int.pow_succ]
 unfold stepF
 cases (bif isB e then decide (s ≤ (i : Int)) else false) with
 | true => exact key (8 + r) (by omega)
 | false =>
  cases (bif isA e then decide ((i : Int) < s) else false) with
  | true => exact key (8 - r) (by omega)
  | false =>
   refine ⟨⟨h1, ?_⟩, j, by omega, h3⟩
   show p.1 ≤ _
   rw [hp]; omega
theorem pow16 {k : Nat} (h : k ≤ 5) : (16 : Int) ^ k ≤ 1048576 := by
 have : ∀ j, j < 6 → (16 : Int) ^ j ≤ 1048576 := by decide
 exact this k (by omega)
theorem pow8 {k : Nat} (h : k ≤ 5) : 1 ≤ (8 : Int) ^ k ∧ (8 : Int) ^ k ≤ 32768 := by
 have : ∀ j, j < 6 → 1 ≤ (8 : Int) ^ j ∧ (8 : Int) ^ j ≤ 32768 := by decide
 exact this k (by omega)
theorem facOk_bd {k : Nat} {p : Int × Int} (h : facOk k p) (hk : k ≤ 5) : (0 ≤ p.1 ∧ p.1 ≤ 1048576) ∧ 1 ≤ p.2 ∧ p.2 ≤ 32768 := by
 obtain ⟨⟨h1, h2⟩, j, hj, h3⟩ := h
 have := pow16 hk
 have := pow8 (k := j) (by omega)
 rw [h3]; omega
def cFact : Con := { args := [aC, aI, aS], ress := [I, I], owns := [], pre := fun (c, s, _) => [cabS c = 0, -1000 ≤ s ∧ s ≤ 1000], spec := fun (c, s, e, _) => ((factS c s e).1, (factS c s e).2, ()) }
abbrev annFact (c : Cab) (s : Int) (e : ByteArray) : Ann := { X := Nat × Int × Int, σ := fun p => ⟨3, [(1, .one (.int .i64 s)), (2, .one (.str e)), (8, .one (.int .i64 p.2.1)), (9, .one (.int .i64 p.2.2)), (13, .one (.sl 1)), (14, .one (.int .i64 c.2.1.length)), (15, .one (.int .i64 p.1))], [(1, .imm 3 sI c.2.1)]⟩, inv := fun p => p.1 ≤ c.2.1.length ∧ facOk p.1 p.2 ∧ factS c s e = facGo e s p.1 (c.2.1.drop p.1) p.2, mu := fun p => c.2.1.length - p.1 }
theorem vc116 : ∀ (c : Cab) (s : Int) (e : ByteArray), wpF Tryz.prog G74 (ann0 (annFact c s e)) Tryz.f116 cFact (c, s, e, ()) = (cabS c = 0 → (-1000) ≤ s ∧ s ≤ 1000 → ∃ (x : Nat × Int × Int), (s = s ∧ e = e ∧ 1 = x.2.1 ∧ 1 = x.2.2 ∧ (↑(List.length c.2.1) : Int) = (↑(List.length c.2.1) : Int) ∧ 0 = (↑x.1 : Int) ∧ c.2.1 = c.2.1) ∧ (x.1 ≤ List.length c.2.1 ∧ facOk x.1 x.2 ∧ factS c s e = facGo e s x.1 (List.drop x.1 c.2.1) x.2) ∧ ∀ (x : Nat × Int × Int), x.1 ≤ List.length c.2.1 ∧ facOk x.1 x.2 ∧ factS c s e = facGo e s x.1 (List.drop x.1 c.2.1) x.2 → (decide ((↑x.1 : Int) < (↑(List.length c.2.1) : Int)) = true → ((0 ≤ (↑x.1 : Int) ∧ (↑x.1 : Int) < (↑(List.length c.2.1) : Int)) ∧ 0 ≤ (↑x.1 : Int) ∧ (↑x.1 : Int) < (↑(List.length c.2.1) : Int)) ∧ ((bif ByteArray.toList e == ByteArray.toList (ByteArray.mk (Array.mk [(66 : UInt8)])) then decide (s ≤ (↑x.1 : Int)) else false) = true → (((-9223372036854775808 : Int) ≤ 8 + List.getD c.2.1 x.1 0 ∧ 8 + List.getD c.2.1 x.1 (0 : Int) ≤ 9223372036854775807) ∧ (I64 (x.2.1 * (8 + List.getD c.2.1 x.1 0))) ∧ (-9223372036854775808) ≤ x.2.2 * 8 ∧ x.2.2 * (8 : Int) ≤ 9223372036854775807) ∧ ((-9223372036854775808) ≤ (↑x.1 : Int) + 1 ∧ (↑x.1 : Int) + (1 : Int) ≤ 9223372036854775807) ∧ ∃ (y : Nat × Int × Int), (s = s ∧ e = e ∧ x.2.1 * (8 + List.getD c.2.1 x.1 0) = y.2.1 ∧ x.2.2 * 8 = y.2.2 ∧ (↑(List.length c.2.1) : Int) = (↑(List.length c.2.1) : Int) ∧ (↑x.1 : Int) + 1 = (↑y.1 : Int) ∧ c.2.1 = c.2.1) ∧ (y.1 ≤ List.length c.2.1 ∧ facOk y.1 y.2 ∧ factS c s e = facGo e s y.1 (List.drop y.1 c.2.1) y.2) ∧ List.length c.2.1 - y.1 < List.length c.2.1 - x.1) ∧ ((bif ByteArray.toList e == ByteArray.toList (ByteArray.mk (Array.mk [(66 : UInt8)])) then decide (s ≤ (↑x.1 : Int)) else false) = false → ((bif ByteArray.toList e == ByteArray.toList (ByteArray.mk (Array.mk [(65 : UInt8)])) then decide ((↑x.1 : Int) < s) else false) = true → (((-9223372036854775808 : Int) ≤ 8 - List.getD c.2.1 x.1 0 ∧ 8 - List.getD c.2.1 x.1 (0 : Int) ≤ 9223372036854775807) ∧ (I64 (x.2.1 * (8 - List.getD c.2.1 x.1 0))) ∧ (-9223372036854775808) ≤ x.2.2 * 8 ∧ x.2.2 * (8 : Int) ≤ 9223372036854775807) ∧ ((-9223372036854775808) ≤ (↑x.1 : Int) + 1 ∧ (↑x.1 : Int) + (1 : Int) ≤ 9223372036854775807) ∧ ∃ (y : Nat × Int × Int), (s = s ∧ e = e ∧ x.2.1 * (8 - List.getD c.2.1 x.1 0) = y.2.1 ∧ x.2.2 * 8 = y.2.2 ∧ (↑(List.length c.2.1) : Int) = (↑(List.length c.2.1) : Int) ∧ (↑x.1 : Int) + 1 = (↑y.1 : Int) ∧ c.2.1 = c.2.1) ∧ (y.1 ≤ List.length c.2.1 ∧ facOk y.1 y.2 ∧ factS c s e = facGo e s y.1 (List.drop y.1 c.2.1) y.2) ∧ List.length c.2.1 - y.1 < List.length c.2.1 - x.1) ∧ ((bif ByteArray.toList e == ByteArray.toList (ByteArray.mk (Array.mk [(65 : UInt8)])) then decide ((↑x.1 : Int) < s) else false) = false → ((-9223372036854775808) ≤ (↑x.1 : Int) + 1 ∧ (↑x.1 : Int) + (1 : Int) ≤ 9223372036854775807) ∧ ∃ (y : Nat × Int × Int), (s = s ∧ e = e ∧ x.2.1 = y.2.1 ∧ x.2.2 = y.2.2 ∧ (↑(List.length c.2.1) : Int) = (↑(List.length c.2.1) : Int) ∧ (↑x.1 : Int) + 1 = (↑y.1 : Int) ∧ c.2.1 = c.2.1) ∧ (y.1 ≤ List.length c.2.1 ∧ facOk y.1 y.2 ∧ factS c s e = facGo e s y.1 (List.drop y.1 c.2.1) y.2) ∧ List.length c.2.1 - y.1 < List.length c.2.1 - x.1))) ∧ (decide ((↑x.1 : Int) < (↑(List.length c.2.1) : Int)) = false → x.2.1 = (factS c s e).1 ∧ x.2.2 = (factS c s e).2)) := by
 intros
 kernel_rfl
theorem wp116 (c : Cab) (s : Int) (e : ByteArray) : wpF Tryz.prog G74 (ann0 (annFact c s e)) Tryz.f116 cFact (c, s, e, ()) := by
 refine (vc116 c s e).mpr ?_
 delta I64
 intro h hs
 have hv : cabV c := cabS_V h
 obtain ⟨v1, v2, v3, v4, v5, _⟩ := id hv
 refine ⟨((0 : Nat), (1 : Int), (1 : Int)), ⟨rfl, rfl, rfl, rfl, rfl, rfl, rfl⟩, ⟨Nat.zero_le _, ⟨⟨by decide, by decide⟩, 0, Nat.le_refl _, rfl⟩, rfl⟩, fun p hp => ?_⟩
 obtain ⟨k, n, d⟩ := p
 obtain ⟨i1, i2, i3⟩ := hp
 replace i1 : k ≤ c.2.1.length := i1
 replace i2 : facOk k (n, d) := i2
 replace i3 : factS c s e = facGo e s k (c.2.1.drop k) (n, d) := i3
 refine ⟨fun e1 => ?_, fun e1 => ?_⟩
 ·have hlt : k < c.2.1.length := by
   have e1 : (k : Int) < c.2.1.length := of_decide_eq_true e1
   omega
  have hr := v5 _ (getD_mem (d := (0 : Int)) hlt)
  have hd := fac_drop (e := e) (s := s) (p := (n, d)) hlt
  have ho := facOk_step (i := k) (e := e) (s := s) i2 hr
  have hb := facOk_bd ho (by omega)
  rw [hd] at i3
  have kk : 0 ≤ (k : Int) ∧ (k : Int) < c.2.1.length := by omega
  have kb : -9223372036854775808 ≤ (k : Int) + 1 ∧ (k : Int) + 1 ≤ 9223372036854775807 := by omega
  dsimp only
  refine ⟨⟨kk, kk⟩, fun c1 => ?_, fun c1 => ⟨fun c2 => ?_, fun c2 => ?_⟩⟩
  ·have c1 : (bif isB e then decide (s ≤ (k : Int)) else false) = true := c1
   have es : stepF e s k (c.2.1.getD k 0) (n, d) = (n * (8 + c.2.1.getD k 0), d * 8) := by unfold stepF; rw [c1]; rfl
   rw [es] at ho hb i3
   dsimp only at hb
   exact ⟨⟨by omega, ⟨by omega, by omega⟩, by omega, by omega⟩, kb, (k + 1, n * (8 + c.2.1.getD k 0), d * 8), ⟨rfl, rfl, rfl, rfl, rfl, by simp, rfl⟩, ⟨hlt, ho, i3⟩, by show c.2.1.length - (k + 1) < c.2.1.length - k; omega⟩
  ·have c1 : (bif isB e then decide (s ≤ (k : Int)) else false) = false := c1
   have c2 : (bif isA e then decide ((k : Int) < s) else false) = true := c2
   have es : stepF e s k (c.2.1.getD k 0) (n, d) = (n * (8 - c.2.1.getD k 0), d * 8) := by unfold stepF; rw [c1, c2]; rfl
   rw [es] at ho hb i3
   dsimp only at hb
   exact ⟨⟨by omega, ⟨by omega, by omega⟩, by omega, by omega⟩, kb, (k + 1, n * (8 - c.2.1.getD k 0), d * 8), ⟨rfl, rfl, rfl, rfl, rfl, by simp, rfl⟩, ⟨hlt, ho, i3⟩, by show c.2.1.length - (k + 1) < c.2.1.length - k; omega⟩
  ·have c1 : (bif isB e then decide (s ≤ (k : Int)) else false) = false := c1
   have c2 : (bif isA e then decide ((k : Int) < s) else false) = false := c2
   have es : stepF e s k (c.2.1.getD k 0) (n, d) = (n, d) := by unfold stepF; rw [c1, c2]; rfl
   rw [es] at ho i3
   exact ⟨kb, (k + 1, n, d), ⟨rfl, rfl, rfl, rfl, rfl, by simp, rfl⟩, ⟨hlt, ho, i3⟩, by show c.2.1.length - (k + 1) < c.2.1.length - k; omega⟩
 ·have hge : ¬ k < c.2.1.length := by
   have e1 : ¬ (k : Int) < c.2.1.length := of_decide_eq_false e1
   omega
  rw [i3, List.drop_of_length_le (by omega)]
  exact ⟨rfl, rfl⟩
theorem ok116 [Sx.Dr] : Ok Tryz.prog 116 cFact := ok_of_wp mixed g74 (by kernel_rfl) (by kernel_rfl) (fun xx => ann0 (annFact xx.1 xx.2.1 xx.2.2.1)) fun xx => wp116 xx.1 xx.2.1 xx.2.2.1
abbrev G75 : Gam := (116, cFact) :: G74
theorem g75 [Sx.Dr] : GamOk Tryz.prog G75 := .cons ok116 g74
def cFactR : Con := { args := [aCR, aI, aS], ress := [I, I], owns := [], pre := fun (c, s, _) => [cabS c = 0, -1000 ≤ s ∧ s ≤ 1000], spec := fun (c, s, e, _) => ((factS c s e).1, (factS c s e).2, ()) }
abbrev annFactR (c : Cab) (s : Int) (e : ByteArray) : Ann := { X := Nat × Int × Int, σ := fun p => ⟨3, [(1, .one (.int .i64 s)), (2, .one (.str e)), (3, .one (.ptr 2 0)), (8, .one (.int .i64 p.2.1)), (9, .one (.int .i64 p.2.2)), (10, .one (.int .i64 (p.1 + 1)))], [(0, .imm 102 sPt c.1), (1, .imm 3 sI c.2.1), (2, .box 26 [.sl 0, .sl 1, .int .i64 c.2.2.1, .int .i64 c.2.2.2])]⟩, inv := fun p => p.1 ≤ c.2.1.length ∧ facOk p.1 p.2 ∧ factS c s e = facGo e s p.1 (c.2.1.drop p.1) p.2, mu := fun p => c.2.1.length - p.1 }
def vc122_0 (c : Cab) (s : Int) (e : ByteArray) (x : Nat × Int × Int) := (Int.toNat ((↑x.1 : Int) + (1 : Int) - (1 : Int)))
def vc122_1 (c : Cab) (s : Int) (e : ByteArray) (x : Nat × Int × Int) := ((0 : Int) ≤ (↑x.1 : Int) + (1 : Int) - (1 : Int) ∧ (↑x.1 : Int) + (1 : Int) - (1 : Int) < (↑(List.length c.2.1) : Int))
def vc122_2 (c : Cab) (s : Int) (e : ByteArray) (x : Nat × Int × Int) := ((-9223372036854775808 : Int) ≤ (↑x.1 : Int) + (1 : Int) + (1 : Int) ∧ (↑x.1 : Int) + (1 : Int) + (1 : Int) ≤ (9223372036854775807 : Int))
def vc122_3 (c : Cab) (s : Int) (e : ByteArray) (x : Nat × Int × Int) := (bif ByteArray.toList e == ByteArray.toList (ByteArray.mk (Array.mk [(65 : UInt8)])) then decide ((↑x.1 : Int) + (1 : Int) ≤ s) else false)
def vc122_4 (c : Cab) (s : Int) (e : ByteArray) (y : Nat × Int × Int) := (y.1 ≤ List.length c.2.1 ∧ facOk y.1 y.2 ∧ factS c s e = facGo e s y.1 (List.drop y.1 c.2.1) y.2)
def vc122_5 (c : Cab) (s : Int) (e : ByteArray) (x : Nat × Int × Int) := ((-9223372036854775808 : Int) ≤ (↑x.1 : Int) + (1 : Int) - (1 : Int) ∧ (↑x.1 : Int) + (1 : Int) - (1 : Int) ≤ (9223372036854775807 : Int))
theorem vc122 : ∀ (c : Cab) (s : Int) (e : ByteArray), wpF Tryz.prog G75 (ann0 (annFactR c s e)) Tryz.f122 cFactR (c, s, e, ()) = (cabS c = 0 → (-1000) ≤ s ∧ s ≤ 1000 → ∃ (x : Nat × Int × Int), (s = s ∧ e = e ∧ 1 = x.2.1 ∧ 1 = x.2.2 ∧ 1 = (↑x.1 : Int) + 1 ∧ c.1 = c.1 ∧ c.2.1 = c.2.1 ∧ c.2.2.1 = c.2.2.1 ∧ c.2.2.2 = c.2.2.2) ∧ (x.1 ≤ List.length c.2.1 ∧ facOk x.1 x.2 ∧ factS c s e = facGo e s x.1 (List.drop x.1 c.2.1) x.2) ∧ ∀ (x : Nat × Int × Int), x.1 ≤ List.length c.2.1 ∧ facOk x.1 x.2 ∧ factS c s e = facGo e s x.1 (List.drop x.1 c.2.1) x.2 → (decide ((↑x.1 : Int) + 1 < (↑(List.length c.1) : Int)) = true → ((bif ByteArray.toList e == ByteArray.toList (ByteArray.mk (Array.mk [(66 : UInt8)])) then decide (s < (↑x.1 : Int) + 1) else false) = true → ((vc122_5 c s e x) ∧ (vc122_1 c s e x) ∧ (vc122_1 c s e x) ∧ ((-9223372036854775808 : Int) ≤ 8 + List.getD c.2.1 (vc122_0 c s e x) 0 ∧ 8 + List.getD c.2.1 (vc122_0 c s e x) (0 : Int) ≤ 9223372036854775807) ∧ (I64 (x.2.1 * (8 + List.getD c.2.1 (vc122_0 c s e x) 0))) ∧ (-9223372036854775808) ≤ x.2.2 * 8 ∧ x.2.2 * (8 : Int) ≤ 9223372036854775807) ∧ ((vc122_3 c s e x) = true → ((vc122_5 c s e x) ∧ (vc122_1 c s e x) ∧ (vc122_1 c s e x) ∧ ((-9223372036854775808 : Int) ≤ 8 - List.getD c.2.1 (vc122_0 c s e x) 0 ∧ 8 - List.getD c.2.1 (vc122_0 c s e x) (0 : Int) ≤ 9223372036854775807) ∧ (I64 (x.2.1 * (8 + List.getD c.2.1 (vc122_0 c s e x) 0) * (8 - List.getD c.2.1 (vc122_0 c s e x) 0))) ∧ I64 (x.2.2 * (8 : Int) * 8)) ∧ (vc122_2 c s e x) ∧ ∃ (y : Nat × Int × Int), (s = s ∧ e = e ∧ x.2.1 * (8 + List.getD c.2.1 (vc122_0 c s e x) 0) * (8 - List.getD c.2.1 (vc122_0 c s e x) 0) = y.2.1 ∧ x.2.2 * (8 : Int) * 8 = y.2.2 ∧ (↑x.1 : Int) + (1 : Int) + 1 = (↑y.1 : Int) + 1 ∧ c.1 = c.1 ∧ c.2.1 = c.2.1 ∧ c.2.2.1 = c.2.2.1 ∧ c.2.2.2 = c.2.2.2) ∧ (vc122_4 c s e y) ∧ List.length c.2.1 - y.1 < List.length c.2.1 - x.1) ∧ ((vc122_3 c s e x) = false → (vc122_2 c s e x) ∧ ∃ (y : Nat × Int × Int), (s = s ∧ e = e ∧ x.2.1 * (8 + List.getD c.2.1 (vc122_0 c s e x) 0) = y.2.1 ∧ x.2.2 * 8 = y.2.2 ∧ (↑x.1 : Int) + (1 : Int) + 1 = (↑y.1 : Int) + 1 ∧ c.1 = c.1 ∧ c.2.1 = c.2.1 ∧ c.2.2.1 = c.2.2.1 ∧ c.2.2.2 = c.2.2.2) ∧ (vc122_4 c s e y) ∧ List.length c.2.1 - y.1 < List.length c.2.1 - x.1)) ∧ ((bif ByteArray.toList e == ByteArray.toList (ByteArray.mk (Array.mk [(66 : UInt8)])) then decide (s < (↑x.1 : Int) + 1) else false) = false → ((vc122_3 c s e x) = true → ((vc122_5 c s e x) ∧ (vc122_1 c s e x) ∧ (vc122_1 c s e x) ∧ ((-9223372036854775808 : Int) ≤ 8 - List.getD c.2.1 (vc122_0 c s e x) 0 ∧ 8 - List.getD c.2.1 (vc122_0 c s e x) (0 : Int) ≤ 9223372036854775807) ∧ (I64 (x.2.1 * (8 - List.getD c.2.1 (vc122_0 c s e x) 0))) ∧ (-9223372036854775808) ≤ x.2.2 * 8 ∧ x.2.2 * (8 : Int) ≤ 9223372036854775807) ∧ (vc122_2 c s e x) ∧ ∃ (y : Nat × Int × Int), (s = s ∧ e = e ∧ x.2.1 * (8 - List.getD c.2.1 (vc122_0 c s e x) 0) = y.2.1 ∧ x.2.2 * 8 = y.2.2 ∧ (↑x.1 : Int) + (1 : Int) + 1 = (↑y.1 : Int) + 1 ∧ c.1 = c.1 ∧ c.2.1 = c.2.1 ∧ c.2.2.1 = c.2.2.1 ∧ c.2.2.2 = c.2.2.2) ∧ (vc122_4 c s e y) ∧ List.length c.2.1 - y.1 < List.length c.2.1 - x.1) ∧ ((vc122_3 c s e x) = false → (vc122_2 c s e x) ∧ ∃ (y : Nat × Int × Int), (s = s ∧ e = e ∧ x.2.1 = y.2.1 ∧ x.2.2 = y.2.2 ∧ (↑x.1 : Int) + (1 : Int) + 1 = (↑y.1 : Int) + 1 ∧ c.1 = c.1 ∧ c.2.1 = c.2.1 ∧ c.2.2.1 = c.2.2.1 ∧ c.2.2.2 = c.2.2.2) ∧ (vc122_4 c s e y) ∧ List.length c.2.1 - y.1 < List.length c.2.1 - x.1))) ∧ (decide ((↑x.1 : Int) + 1 < (↑(List.length c.1) : Int)) = false → x.2.1 = (factS c s e).1 ∧ x.2.2 = (factS c s e).2)) := by
 intros
 kernel_rfl
theorem wp122 (c : Cab) (s : Int) (e : ByteArray) : wpF Tryz.prog G75 (ann0 (annFactR c s e)) Tryz.f122 cFactR (c, s, e, ()) := by
 refine (vc122 c s e).mpr ?_
 delta vc122_0 vc122_1 vc122_2 vc122_3 vc122_4 vc122_5
 delta I64
 intro h hs
 have hv : cabV c := cabS_V h
 obtain ⟨v1, v2, v3, v4, v5, _⟩ := id hv
 refine ⟨((0 : Nat), (1 : Int), (1 : Int)), ⟨rfl, rfl, rfl, rfl, rfl, rfl, rfl, rfl, rfl⟩, ⟨Nat.zero_le _, ⟨⟨by decide, by decide⟩, 0, Nat.le_refl _, rfl⟩, rfl⟩, fun p hp => ?_⟩
 obtain ⟨k, n, d⟩ := p
 obtain ⟨i1, i2, i3⟩ := hp
 replace i1 : k ≤ c.2.1.length := i1
 replace i2 : facOk k (n, d) := i2
 replace i3 : factS c s e = facGo e s k (c.2.1.drop k) (n, d) := i3
 refine ⟨fun e1 => ?_, fun e1 => ?_⟩
 ·have hlt : k < c.2.1.length := by
   have e1 : (k : Int) + 1 < c.1.length := of_decide_eq_true e1
   omega
  have hr := v5 _ (getD_mem (d := (0 : Int)) hlt)
  have hd := fac_drop (e := e) (s := s) (p := (n, d)) hlt
  have ho := facOk_step (i := k) (e := e) (s := s) i2 hr
  have hb := facOk_bd ho (by omega)
  rw [hd] at i3
  have kn : ((k : Int) + 1 - 1).toNat = k := by omega
  have kk : 0 ≤ (k : Int) + 1 - 1 ∧ (k : Int) + 1 - 1 < c.2.1.length := by omega
  have km : -9223372036854775808 ≤ (k : Int) + 1 - 1 ∧ (k : Int) + 1 - 1 ≤ 9223372036854775807 := by omega
  have kb : -9223372036854775808 ≤ (k : Int) + 1 + 1 ∧ (k : Int) + 1 + 1 ≤ 9223372036854775807 := by omega
  have eB : (bif isB e then decide (s < (k : Int) + 1) else false) = (bif isB e then decide (s ≤ (k : Int)) else false) := by
   have : decide (s < (k : Int) + 1) = decide (s ≤ (k : Int)) := decide_eq_decide.2 (by omega)
   rw [this]
  have eA : (bif isA e then decide ((k : Int) + 1 ≤ s) else false) = (bif isA e then decide ((k : Int) < s) else false) := by
   have : decide ((k : Int) + 1 ≤ s) = decide ((k : Int) < s) := decide_eq_decide.2 (by omega)
   rw [this]
  dsimp only
  rw [kn]
  refine ⟨fun c1 => ?_, fun c1 => ⟨fun c2 => ?_, fun c2 => ?_⟩⟩
  ·have c1 : (bif isB e then decide (s ≤ (k : Int)) else false) = true := eB.symm.trans c1
   have es : stepF e s k (c.2.1.getD k 0) (n, d) = (n * (8 + c.2.1.getD k 0), d * 8) := by unfold stepF; rw [c1]; rfl
   rw [es] at ho hb i3
   dsimp only at hb
   have hBe : isB e = true := by cases hq : isB e with
    | true => rfl
    | false => rw [hq] at c1; cases c1
   refine ⟨⟨km, kk, kk, by omega, ⟨by omega, by omega⟩, by omega, by omega⟩, fun c2 => ?_, fun c2 => ?_⟩
   ·have c2 : (bif isA e then decide ((k : Int) + 1 ≤ s) else false) = true := c2
    rw [not_both e hBe] at c2
    cases c2
   ·exact ⟨kb, (k + 1, n * (8 + c.2.1.getD k 0), d * 8), ⟨rfl, rfl, rfl, rfl, by simp, rfl, rfl, rfl, rfl⟩, ⟨hlt, ho, i3⟩, by show c.2.1.length - (k + 1) < c.2.1.length - k; omega⟩
  ·have c1 : (bif isB e then decide (s ≤ (k : Int)) else false) = false := eB.symm.trans c1
   have c2 : (bif isA e then decide ((k : Int) < s) else false) = true := eA.symm.trans c2
   have es : stepF e s k (c.2.1.getD k 0) (n, d) = (n * (8 - c.2.1.getD k 0), d * 8) := by unfold stepF; rw [c1, c2]; rfl
   rw [es] at ho hb i3
   dsimp only at hb
   exact ⟨⟨km, kk, kk, by omega, ⟨by omega, by omega⟩, by omega, by omega⟩, kb, (k + 1, n * (8 - c.2.1.getD k 0), d * 8), ⟨rfl, rfl, rfl, rfl, by simp, rfl, rfl, rfl, rfl⟩, ⟨hlt, ho, i3⟩, by show c.2.1.length - (k + 1) < c.2.1.length - k; omega⟩
  ·have c1 : (bif isB e then decide (s ≤ (k : Int)) else false) = false := eB.symm.trans c1
   have c2 : (bif isA e then decide ((k : Int) < s) else false) = false := eA.symm.trans c2
   have es : stepF e s k (c.2.1.getD k 0) (n, d) = (n, d) := by unfold stepF; rw [c1, c2]; rfl
   rw [es] at ho i3
   exact ⟨kb, (k + 1, n, d), ⟨rfl, rfl, rfl, rfl, by simp, rfl, rfl, rfl, rfl⟩, ⟨hlt, ho, i3⟩, by show c.2.1.length - (k + 1) < c.2.1.length - k; omega⟩
 ·have hge : ¬ k < c.2.1.length := by
   have e1 : ¬ (k : Int) + 1 < c.1.length := of_decide_eq_false e1
   omega
  rw [i3, List.drop_of_length_le (by omega)]
  exact ⟨rfl, rfl⟩
theorem ok122 [Sx.Dr] : Ok Tryz.prog 122 cFactR := ok_of_wp mixed g75 (by kernel_rfl) (by kernel_rfl) (fun xx => ann0 (annFactR xx.1 xx.2.1 xx.2.2.1)) fun xx => wp122 xx.1 xx.2.1 xx.2.2.1
abbrev G76 : Gam := (122, cFactR) :: G75
theorem g76 [Sx.Dr] : GamOk Tryz.prog G76 := .cons ok122 g75
set_option maxHeartbeats 20000000
def factorE (c : Cab) (s : Int) (e : ByteArray) : Int := firstS [cabS c, secE c s, endS e]
def factorG (c : Cab) (s : Int) (e : ByteArray) : Int × Int := lowestS (factS c s e).1 (factS c s e).2
def factorF (c : Cab) (s : Int) (e : ByteArray) : Int × Int := if factorE c s e = 0 then factorG c s e else (0, 0)
theorem facGo_ok {e : ByteArray} {s : Int} : ∀ {l : List Int} {i k : Nat} {p : Int × Int}, facOk k p → (∀ r ∈ l, -8 ≤ r ∧ r ≤ 8) → facOk (k + l.length) (facGo e s i l p)
 | [], _, _, _, h, _ => h
 | r :: l, i, k, p, h, hl => by
  have := facGo_ok (e := e) (s := s) (l := l) (i := i + 1) (facOk_step (i := i) (e := e) (s := s) h (hl r (by simp))) fun x hx => hl x (by simp [hx])
  rw [show k + 1 + l.length = k + (r :: l).length by simp only [List.length_cons]; omega] at this
  exact this
theorem factS_ok {c : Cab} {s : Int} {e : ByteArray} (hv : cabV c) : facOk c.2.1.length (factS c s e) := by
 have := facGo_ok (e := e) (s := s) (l := c.2.1) (i := 0) (k := 0) (p := (1, 1)) ⟨⟨by decide, by decide⟩, 0, Nat.le_refl _, rfl⟩ hv.2.2.2.2.1
 rwa [Nat.zero_add] at this
theorem factS_bd {c : Cab} {s : Int} {e : ByteArray} (hv : cabV c) : (0 ≤ (factS c s e).1 ∧ (factS c s e).1 ≤ 1048576) ∧ 1 ≤ (factS c s e).2 ∧ (factS c s e).2 ≤ 32768 :=
 facOk_bd (factS_ok hv) (by have := hv.2.1; have := hv.2.2.2.1; omega)
theorem factorE_zero {c : Cab} {s : Int} {e : ByteArray} (h : factorE c s e = 0) : cabS c = 0 ∧ (0 ≤ s ∧ s < c.1.length) ∧ endS e = 0 := by
 have hz := firstS_zero (show firstS [cabS c, secE c s, endS e] = 0 from h)
 simp only [List.mem_cons, List.not_mem_nil, or_false, forall_eq_or_imp, forall_eq] at hz
 exact ⟨hz.1, secE_zero.1 hz.2.1, hz.2.2⟩
def cFactor : Con := { args := [aC, aI, aS], ress := [Pr, I], owns := [], pre := fun (c, _) => [c.1.length ≤ 1000000, c.2.1.length ≤ 1000000], spec := fun (c, s, e, _) => (factorF c s e, factorE c s e, ()) }
def vc57_0 (c : Cab) (s : Int) (e : ByteArray) := (c.1, c.2.1, c.2.2.1, c.2.2.2)
theorem vc57 : ∀ (c : Cab) (s : Int) (e : ByteArray), wpF Tryz.prog G76 (na ()) Tryz.f57 cFactor (c, s, e, ()) = (List.length c.1 ≤ 1000000 → List.length c.2.1 ≤ 1000000 → (List.length c.1 ≤ 1000000 ∧ List.length c.2.1 ≤ 1000000 ∧ List.length c.1 ≤ 1000000 ∧ 3 ≤ 1000000) ∧ ((firstS [cabS (vc57_0 c s e), secE (vc57_0 c s e) s, endS e] != 0) = true → (0, 0) = factorF c s e ∧ firstS [cabS (vc57_0 c s e), secE (vc57_0 c s e) s, endS e] = factorE c s e) ∧ ((firstS [cabS (vc57_0 c s e), secE (vc57_0 c s e) s, endS e] != 0) = false → (cabS (vc57_0 c s e) = 0 ∧ ((-1000) ≤ s ∧ s ≤ 1000) ∧ ((-9200000000000000000) ≤ (factS (vc57_0 c s e) s e).1 ∧ (factS (vc57_0 c s e) s e).1 ≤ 9200000000000000000) ∧ 0 < (factS (vc57_0 c s e) s e).2 ∧ (factS (vc57_0 c s e) s e).2 ≤ 9200000000000000000) ∧ ((lowestS (factS (vc57_0 c s e) s e).1 (factS (vc57_0 c s e) s e).2).1, (lowestS (factS (vc57_0 c s e) s e).1 (factS (vc57_0 c s e) s e).2).2) = factorF c s e ∧ 0 = factorE c s e)) := by
 intros
 kernel_rfl
theorem wp57 (c : Cab) (s : Int) (e : ByteArray) : wpF Tryz.prog G76 (na ()) Tryz.f57 cFactor (c, s, e, ()) := by
 refine (vc57 c s e).mpr ?_
 delta vc57_0
 intro h1 h2
 refine ⟨⟨h1, h2, h1, by omega⟩, fun h => ?_, fun h => ?_⟩
 ·have h : ¬ factorE c s e = 0 := bne_iff_ne.1 h
  unfold factorF; rw [if_neg h]; exact ⟨rfl, rfl⟩
 ·have h : factorE c s e = 0 := bne_eq_false_iff_eq.1 h
  obtain ⟨hc, hs, _⟩ := factorE_zero h
  have hv : cabV c := cabS_V hc
  have hb := factS_bd (s := s) (e := e) hv
  have hl := hv.2.1
  have b1 : -9200000000000000000 ≤ (factS c s e).1 ∧ (factS c s e).1 ≤ 9200000000000000000 := by omega
  have b2 : 0 < (factS c s e).2 ∧ (factS c s e).2 ≤ 9200000000000000000 := by omega
  unfold factorF; rw [if_pos h]
  exact ⟨⟨hc, by omega, b1, b2⟩, rfl, h.symm⟩
theorem ok57 [Sx.Dr] : Ok Tryz.prog 57 cFactor := ok_of_wp mixed g76 (by kernel_rfl) (by kernel_rfl) na fun xx => wp57 xx.1 xx.2.1 xx.2.2.1
abbrev G77 : Gam := (57, cFactor) :: G76
theorem g77 [Sx.Dr] : GamOk Tryz.prog G77 := .cons ok57 g76
def cFactorR : Con := { args := [aCR, aI, aS], ress := [Pr], owns := [], pre := fun (c, s, e, _) => [factorE c s e = 0], spec := fun (c, s, e, _) => (factorG c s e, ()) }
def vc67_0 (c : Cab) (s : Int) (e : ByteArray) := (factS (c.1, c.2.1, c.2.2.1, c.2.2.2) s e)
theorem vc67 : ∀ (c : Cab) (s : Int) (e : ByteArray), wpF Tryz.prog G77 (na ()) Tryz.f67 cFactorR (c, s, e, ()) = (factorE c s e = 0 → (cabS (c.1, c.2.1, c.2.2.1, c.2.2.2) = 0 ∧ (-1000) ≤ s ∧ s ≤ 1000) ∧ (((-9200000000000000000) ≤ (vc67_0 c s e).1 ∧ (vc67_0 c s e).1 ≤ 9200000000000000000) ∧ 0 < (vc67_0 c s e).2 ∧ (vc67_0 c s e).2 ≤ 9200000000000000000) ∧ ((lowestS (vc67_0 c s e).1 (vc67_0 c s e).2).1, (lowestS (vc67_0 c s e).1 (vc67_0 c s e).2).2) = factorG c s e) := by
 intros
 kernel_rfl
theorem wp67 (c : Cab) (s : Int) (e : ByteArray) : wpF Tryz.prog G77 (na ()) Tryz.f67 cFactorR (c, s, e, ()) := by
 refine (vc67 c s e).mpr ?_
 delta vc67_0
 intro h
 obtain ⟨hc, hs, _⟩ := factorE_zero h
 have hv : cabV c := cabS_V hc
 have hb := factS_bd (s := s) (e := e) hv
 have hl := hv.2.1
 have b1 : -9200000000000000000 ≤ (factS c s e).1 ∧ (factS c s e).1 ≤ 9200000000000000000 := by omega
 have b2 : 0 < (factS c s e).2 ∧ (factS c s e).2 ≤ 9200000000000000000 := by omega
 exact ⟨⟨hc, by omega⟩, ⟨b1, b2⟩, rfl⟩
theorem ok67 [Sx.Dr] : Ok Tryz.prog 67 cFactorR := ok_of_wp mixed g77 (by kernel_rfl) (by kernel_rfl) na fun xx => wp67 xx.1 xx.2.1 xx.2.2.1
abbrev G78 : Gam := (67, cFactorR) :: G77
theorem g78 [Sx.Dr] : GamOk Tryz.prog G78 := .cons ok67 g77
set_option maxHeartbeats 20000000
def selS (q : Nat → Bool) : Nat → List (Int × Int) → Int → Int
 | _, [], a => a
 | i, x :: r, a => selS q (i + 1) r (bif q i then a + x.2 else a)
theorem selS_snoc (q : Nat → Bool) (x : Int × Int) : ∀ (l : List (Int × Int)) (i : Nat) (a : Int), selS q i (l ++ [x]) a = bif q (i + l.length) then selS q i l a + x.2 else selS q i l a
 | [], i, a => by simp [selS]
 | y :: r, i, a => by
  simp only [List.cons_append, selS, List.length_cons]
  rw [selS_snoc q x r, show i + 1 + r.length = i + (r.length + 1) by omega]
theorem selS_add (q : Nat → Bool) : ∀ (l : List (Int × Int)) (i : Nat) (a b : Int), selS q i l (a + b) = selS q i l a + b
 | [], _, _, _ => rfl
 | x :: r, i, a, b => by
  simp only [selS]
  cases q i
  ·simp only [cond_false]; exact selS_add q r (i + 1) a b
  ·simp only [cond_true]
   rw [show a + b + x.2 = (a + x.2) + b by omega]; exact selS_add q r (i + 1) _ b
theorem selS_congr {q q' : Nat → Bool} (h : ∀ i, q i = q' i) (l : List (Int × Int)) (i : Nat) (a : Int) : selS q i l a = selS q' i l a := by
 rw [show q = q' from funext h]
theorem selS_bd {q : Nat → Bool} : ∀ {l : List (Int × Int)} {i : Nat} {a : Int}, (∀ x ∈ l, 1 ≤ x.1 ∧ x.1 ≤ 100000 ∧ 1 ≤ x.2 ∧ x.2 ≤ 64) → a ≤ selS q i l a ∧ selS q i l a ≤ a + 64 * l.length
 | [], _, _, _ => by simp [selS]
 | x :: r, i, a, h => by
  have hx := h x (by simp)
  have ih := selS_bd (q := q) (l := r) (i := i + 1) (a := bif q i then a + x.2 else a) fun y hy => h y (by simp [hy])
  simp only [selS, List.length_cons]
  cases hq : q i
  ·rw [hq] at ih; simp only [cond_false] at ih ⊢; omega
  ·rw [hq] at ih; simp only [cond_true] at ih ⊢; omega
theorem selS_shift {s : Int} : ∀ (l : List (Int × Int)) (i : Nat) (a : Int), (i : Int) ≤ s → s < i + l.length → selS (fun k => decide (s ≤ (k : Int))) i l a = selS (fun k => decide (s < (k : Int))) i l a + (l.getD (s - i).toNat (0, 0)).2
 | [], i, a, h1, h2 => by simp at h2; omega
 | x :: r, i, a, h1, h2 => by
  simp only [selS]
  simp only [List.length_cons] at h2
  rw [decide_eq_false (by omega : ¬ s < (i : Int))]
  simp only [cond_false]
  by_cases e : (i : Int) = s
  ·rw [decide_eq_true (by omega : s ≤ (i : Int)), show (s - (i : Int)).toNat = 0 by omega]
   simp only [cond_true, List.getD_cons_zero]
   rw [selS_add]
   have : ∀ (l : List (Int × Int)) (j : Nat) (a : Int), s < (j : Int) → selS (fun k => decide (s ≤ (k : Int))) j l a = selS (fun k => decide (s < (k : Int))) j l a := by
    intro l
    induction l with
    | nil => intro j a _; rfl
    | cons y t ih =>
     intro j a hj
     simp only [selS]
     rw [decide_eq_true (by omega : s ≤ (j : Int)), decide_eq_true hj]
     exact ih (j + 1) _ (by omega)
   rw [this r (i + 1) a (by omega)]
  ·rw [decide_eq_false (by omega : ¬ s ≤ (i : Int))]
   simp only [cond_false]
   rw [selS_shift r (i + 1) a (by omega) (by omega), show (s - (i : Int)).toNat = (s - ((i + 1 : Nat) : Int)).toNat + 1 by omega, List.getD_cons_succ]
def qP (e : ByteArray) (s : Int) (i : Nat) : Bool := bif (bif isB e then decide (s ≤ (i : Int)) else false) then true else (bif isA e then decide ((i : Int) < s) else false)
def qR (e : ByteArray) (s : Int) (i : Nat) : Bool := bif (bif isA e then decide ((i : Int) < s) else false) then true else (bif isB e then decide (s < (i : Int)) else false)
def tickP (c : Cab) (f : Flt) (e : ByteArray) : Int := bif isA e then selS (qP e f.1) 0 c.1 (f.2.2.1 - f.2.1) + 2 * f.2.1 else selS (qP e f.1) 0 c.1 (f.2.2.1 - f.2.1)
def tickR (c : Cab) (f : Flt) (e : ByteArray) : Int := selS (qR e f.1) 0 c.1 (bif isB e then f.2.2.1 + (c.1.getD f.1.toNat (0, 0)).2 - f.2.1 else f.2.2.1 + f.2.1)
theorem end_AB {e : ByteArray} (h : endS e = 0) : (isA e = true ∧ isB e = false) ∨ (isA e = false ∧ isB e = true) := by
 unfold endS at h
 cases ha : isA e with
 | true =>
  cases hb : isB e with
  | true => have := not_both e hb; rw [ha] at this; cases this
  | false => exact .inl ⟨rfl, rfl⟩
 | false =>
  cases hb : isB e with
  | true => exact .inr ⟨rfl, rfl⟩
  | false =>
   have ha : (e.toList == sA.toList) = false := ha
   have hb : (e.toList == sB.toList) = false := hb
   rw [ha, hb] at h
   cases h
theorem tick_eq {c : Cab} {f : Flt} {e : ByteArray} (hs : 0 ≤ f.1 ∧ f.1 < c.1.length) (he : endS e = 0) : tickP c f e = tickR c f e := by
 unfold tickP tickR
 rcases end_AB he with ⟨ha, hb⟩ | ⟨ha, hb⟩
 ·rw [ha, hb]
  simp only [cond_true, cond_false]
  rw [← selS_add, show f.2.2.1 - f.2.1 + 2 * f.2.1 = f.2.2.1 + f.2.1 by omega]
  refine selS_congr (fun i => ?_) _ _ _
  unfold qP qR; rw [ha, hb]
  cases decide ((i : Int) < f.1) <;> rfl
 ·rw [ha, hb]
  simp only [cond_true, cond_false]
  have e1 : selS (qP e f.1) 0 c.1 (f.2.2.1 - f.2.1) = selS (fun k => decide (f.1 ≤ (k : Int))) 0 c.1 (f.2.2.1 - f.2.1) := selS_congr (fun i => by unfold qP; rw [ha, hb]; cases decide (f.1 ≤ (i : Int)) <;> rfl) _ _ _
  have e2 : ∀ a, selS (qR e f.1) 0 c.1 a = selS (fun k => decide (f.1 < (k : Int))) 0 c.1 a := fun a => selS_congr (fun i => by unfold qR; rw [ha, hb]; rfl) _ _ _
  rw [e1, e2, selS_shift c.1 0 _ (by omega) (by omega), show f.2.2.1 + (c.1.getD f.1.toNat (0, 0)).2 - f.2.1 = (f.2.2.1 - f.2.1) + (c.1.getD f.1.toNat (0, 0)).2 by omega, selS_add, show (f.1 - ((0 : Nat) : Int)).toNat = f.1.toNat by omega]
theorem height_eq {H n d : Int} {j : Nat} (hj : j ≤ 5) (hd : d = 8 ^ j) : H * (262144 : Int).tdiv d * n = (H * 262144 * n).tdiv d := by
 have key : ∀ q : Int, 0 < d → 262144 = d * q → H * (262144 : Int).tdiv d * n = (H * 262144 * n).tdiv d := fun q hd hq => by
  rw [hq, Int.mul_tdiv_cancel_left _ (by omega), show H * (d * q) * n = d * (H * q * n) by rw [Int.mul_left_comm H d q, Int.mul_assoc d], Int.mul_tdiv_cancel_left _ (by omega)]
 have : j = 0 ∨ j = 1 ∨ j = 2 ∨ j = 3 ∨ j = 4 ∨ j = 5 := by omega
 rcases this with rfl | rfl | rfl | rfl | rfl | rfl
 ·exact key 262144 (by rw [hd]; decide) (by rw [hd]; decide)
 ·exact key 32768 (by rw [hd]; decide) (by rw [hd]; decide)
 ·exact key 4096 (by rw [hd]; decide) (by rw [hd]; decide)
 ·exact key 512 (by rw [hd]; decide) (by rw [hd]; decide)
 ·exact key 64 (by rw [hd]; decide) (by rw [hd]; decide)
 ·exact key 8 (by rw [hd]; decide) (by rw [hd]; decide)
def heightR (c : Cab) (f : Flt) (e : ByteArray) : Int := (f.2.2.2 * 262144 * (factS c f.1 e).1).tdiv (factS c f.1 e).2
def dirE (c : Cab) (f : Flt) (e : ByteArray) : Int := firstS [fltS c f, endS e]
def dirG (c : Cab) (f : Flt) (e : ByteArray) : Int × Int := if (factS c f.1 e).1 = 0 then (0, 0) else (tickR c f e, heightR c f e)
def dirGE (c : Cab) (f : Flt) (e : ByteArray) : Int := if (factS c f.1 e).1 = 0 then 7 else 0
def dirF (c : Cab) (f : Flt) (e : ByteArray) : Int × Int := if dirE c f e = 0 then dirG c f e else (0, 0)
def dirEE (c : Cab) (f : Flt) (e : ByteArray) : Int := if dirE c f e = 0 then dirGE c f e else dirE c f e
theorem dirE_zero {c : Cab} {f : Flt} {e : ByteArray} (h : dirE c f e = 0) : fltS c f = 0 ∧ endS e = 0 := by
 have hz := firstS_zero (show firstS [fltS c f, endS e] = 0 from h)
 simp only [List.mem_cons, List.not_mem_nil, or_false, forall_eq_or_imp, forall_eq] at hz
 exact hz
theorem sel_take {q : Nat → Bool} {l : List (Int × Int)} {k : Nat} {a : Int} (h : k < l.length) : selS q 0 (l.take (k + 1)) a = bif q k then selS q 0 (l.take k) a + (l.getD k (0, 0)).2 else selS q 0 (l.take k) a := by
 rw [← take_snoc (d := (0, 0)) h, selS_snoc, Nat.zero_add, List.length_take, Nat.min_eq_left (by omega)]
theorem sel_bd {c : Cab} {q : Nat → Bool} {k : Nat} {a : Int} (hv : cabV c) (ha : -100000 ≤ a ∧ a ≤ 200000) : -100000 ≤ selS q 0 (c.1.take k) a ∧ selS q 0 (c.1.take k) a ≤ 200384 := by
 have h := selS_bd (q := q) (l := c.1.take k) (i := 0) (a := a) fun x hx => hv.2.2.1 x (List.mem_of_mem_take hx)
 have h2 : (c.1.take k).length ≤ c.1.length := by simp; omega
 have h3 := hv.2.1
 omega
theorem ht_bds {c : Cab} {s H : Int} {e : ByteArray} (hv : cabV c) (hH : -1024 ≤ H ∧ H ≤ 1024) : ((factS c s e).2 = 0 → False) ∧ (-9223372036854775808 ≤ (262144 : Int).tdiv (factS c s e).2 ∧ (262144 : Int).tdiv (factS c s e).2 ≤ 9223372036854775807) ∧ (-9223372036854775808 ≤ H * (262144 : Int).tdiv (factS c s e).2 ∧ H * (262144 : Int).tdiv (factS c s e).2 ≤ 9223372036854775807) ∧ -9223372036854775808 ≤ H * (262144 : Int).tdiv (factS c s e).2 * (factS c s e).1 ∧ H * (262144 : Int).tdiv (factS c s e).2 * (factS c s e).1 ≤ 9223372036854775807 := by
 have hb := factS_bd (s := s) (e := e) hv
 have t := tdiv_bd (a := 262144) (g := (factS c s e).2) (B := 262144) ⟨by decide, by decide⟩
 have m1 := mul_bd (A := 1024) (B := 262144) hH t
 have m2 := mul_bd (A := 1024 * 262144) (B := 1048576) m1 (b := (factS c s e).1) ⟨by omega, hb.1.2⟩
 exact ⟨by omega, by omega, by omega, by omega⟩
theorem ht_bdr {c : Cab} {s H : Int} {e : ByteArray} (hv : cabV c) (hH : -1024 ≤ H ∧ H ≤ 1024) : (-9223372036854775808 ≤ H * 262144 ∧ H * 262144 ≤ 9223372036854775807) ∧ (-9223372036854775808 ≤ H * 262144 * (factS c s e).1 ∧ H * 262144 * (factS c s e).1 ≤ 9223372036854775807) ∧ ((factS c s e).2 = 0 → False) ∧ -9223372036854775808 ≤ (H * 262144 * (factS c s e).1).tdiv (factS c s e).2 ∧ (H * 262144 * (factS c s e).1).tdiv (factS c s e).2 ≤ 9223372036854775807 := by
 have hb := factS_bd (s := s) (e := e) hv
 have m2 := mul_bd (A := 1024 * 262144) (B := 1048576) (a := H * 262144) ⟨by omega, by omega⟩ (b := (factS c s e).1) ⟨by omega, hb.1.2⟩
 have t := tdiv_bd (g := (factS c s e).2) m2
 exact ⟨by omega, by omega, by omega, by omega⟩
def cDirect : Con := { args := [aC, aF, aS], ress := [Pr, I], owns := [], pre := fun (c, _) => [c.1.length ≤ 1000000, c.2.1.length ≤ 1000000], spec := fun (c, f, e, _) => (dirF c f e, dirEE c f e, ()) }
abbrev annDir (c : Cab) (f : Flt) (e : ByteArray) : Ann := { X := Nat, σ := fun k => ⟨5, [(2, .one (.str e)), (4, .one (.ptr 3 0)), (6, .one (.ptr 4 0)), (9, .one (.int .i64 (factS c f.1 e).1)), (10, .one (.int .i64 (factS c f.1 e).2)), (11, .one (.int .i64 (selS (qP e f.1) 0 (c.1.take k) (f.2.2.1 - f.2.1)))), (42, .one (.sl 0)), (43, .one (.int .i64 c.1.length)), (44, .one (.int .i64 k))], [(0, .imm 166 sPt c.1), (3, .box 31 [.int .i64 f.1, .int .i64 f.2.1, .int .i64 f.2.2.1, .int .i64 f.2.2.2]), (4, .box 24 [.int .i64 0, .int .i64 0])]⟩, inv := fun k => k ≤ c.1.length ∧ dirE c f e = 0 ∧ (factS c f.1 e).1 ≠ 0, mu := fun k => c.1.length - k }
def vc52_0 (c : Cab) (f : Flt) (e : ByteArray) := (((factS c f.1 e).2 = (0 : Int) → False) ∧ ((-9223372036854775808 : Int) ≤ Int.tdiv (262144 : Int) (factS c f.1 e).2 ∧ Int.tdiv (262144 : Int) (factS c f.1 e).2 ≤ (9223372036854775807 : Int)) ∧ ((-9223372036854775808 : Int) ≤ f.2.2.2 * Int.tdiv (262144 : Int) (factS c f.1 e).2 ∧ f.2.2.2 * Int.tdiv (262144 : Int) (factS c f.1 e).2 ≤ (9223372036854775807 : Int)) ∧ (-9223372036854775808 : Int) ≤ f.2.2.2 * Int.tdiv (262144 : Int) (factS c f.1 e).2 * (factS c f.1 e).1 ∧ f.2.2.2 * Int.tdiv (262144 : Int) (factS c f.1 e).2 * (factS c f.1 e).1 ≤ (9223372036854775807 : Int))
def vc52_1 (c : Cab) (f : Flt) (e : ByteArray) (x : Nat) (y : Nat) := (e = e ∧ (factS c f.1 e).1 = (factS c f.1 e).1 ∧ (factS c f.1 e).2 = (factS c f.1 e).2 ∧ selS (qP e f.1) (0 : Nat) (List.take x c.1) (f.2.2.1 - f.2.1) + (List.getD c.1 x ((0 : Int), (0 : Int))).2 = selS (qP e f.1) (0 : Nat) (List.take y c.1) (f.2.2.1 - f.2.1) ∧ (↑(List.length c.1) : Int) = (↑(List.length c.1) : Int) ∧ (↑x : Int) + (1 : Int) = (↑y : Int) ∧ c.1 = c.1 ∧ f.1 = f.1 ∧ f.2.1 = f.2.1 ∧ f.2.2.1 = f.2.2.1 ∧ f.2.2.2 = f.2.2.2 ∧ (0 : Int) = (0 : Int) ∧ (0 : Int) = (0 : Int))
def vc52_2 (c : Cab) (f : Flt) (e : ByteArray) (x : Nat) := ((-9223372036854775808 : Int) ≤ selS (qP e f.1) (0 : Nat) (List.take x c.1) (f.2.2.1 - f.2.1) + (List.getD c.1 x ((0 : Int), (0 : Int))).2 ∧ selS (qP e f.1) (0 : Nat) (List.take x c.1) (f.2.2.1 - f.2.1) + (List.getD c.1 x ((0 : Int), (0 : Int))).2 ≤ (9223372036854775807 : Int))
def vc52_3 (c : Cab) (f : Flt) (e : ByteArray) := (c.1, c.2.1, c.2.2.1, c.2.2.2)
theorem vc52 : ∀ (c : Cab) (f : Flt) (e : ByteArray), wpF Tryz.prog G78 (ann0 (annDir c f e)) Tryz.f52 cDirect (c, f, e, ()) = (List.length c.1 ≤ 1000000 → List.length c.2.1 ≤ 1000000 → (List.length c.1 ≤ 1000000 ∧ List.length c.2.1 ≤ 1000000 ∧ 2 ≤ 1000000) ∧ ((firstS [fltS (vc52_3 c f e) (f.1, f.2.1, f.2.2.1, f.2.2.2), endS e] != 0) = true → (0, 0) = dirF c f e ∧ firstS [fltS (vc52_3 c f e) (f.1, f.2.1, f.2.2.1, f.2.2.2), endS e] = dirEE c f e) ∧ ((firstS [fltS (vc52_3 c f e) (f.1, f.2.1, f.2.2.1, f.2.2.2), endS e] != 0) = false → (cabS (vc52_3 c f e) = 0 ∧ (-1000) ≤ f.1 ∧ f.1 ≤ 1000) ∧ (((factS (vc52_3 c f e) f.1 e).1 == 0) = true → (0, 0) = dirF c f e ∧ 7 = dirEE c f e) ∧ (((factS (vc52_3 c f e) f.1 e).1 == 0) = false → (I64 (f.2.2.1 - f.2.1)) ∧ ∃ (x : Nat), (e = e ∧ (factS (vc52_3 c f e) f.1 e).1 = (factS c f.1 e).1 ∧ (factS (vc52_3 c f e) f.1 e).2 = (factS c f.1 e).2 ∧ f.2.2.1 - f.2.1 = selS (qP e f.1) 0 (List.take x c.1) (f.2.2.1 - f.2.1) ∧ (↑(List.length c.1) : Int) = (↑(List.length c.1) : Int) ∧ 0 = (↑x : Int) ∧ c.1 = c.1 ∧ f.1 = f.1 ∧ f.2.1 = f.2.1 ∧ f.2.2.1 = f.2.2.1 ∧ f.2.2.2 = f.2.2.2 ∧ (0 : Int) = 0 ∧ (0 : Int) = 0) ∧ (x ≤ List.length c.1 ∧ dirE c f e = 0 ∧ ((factS c f.1 e).1 = 0 → False)) ∧ ∀ (x : Nat), x ≤ List.length c.1 ∧ dirE c f e = 0 ∧ ((factS c f.1 e).1 = 0 → False) → (decide ((↑x : Int) < (↑(List.length c.1) : Int)) = true → ((0 ≤ (↑x : Int) ∧ (↑x : Int) < (↑(List.length c.1) : Int)) ∧ 0 ≤ (↑x : Int) ∧ (↑x : Int) < (↑(List.length c.1) : Int)) ∧ ((bif ByteArray.toList e == ByteArray.toList (ByteArray.mk (Array.mk [(66 : UInt8)])) then decide (f.1 ≤ (↑x : Int)) else false) = true → (vc52_2 c f e x) ∧ ((-9223372036854775808) ≤ (↑x : Int) + 1 ∧ (↑x : Int) + (1 : Int) ≤ 9223372036854775807) ∧ ∃ (y : Nat), (vc52_1 c f e x y) ∧ (y ≤ List.length c.1 ∧ dirE c f e = 0 ∧ ((factS c f.1 e).1 = 0 → False)) ∧ List.length c.1 - y < List.length c.1 - x) ∧ ((bif ByteArray.toList e == ByteArray.toList (ByteArray.mk (Array.mk [(66 : UInt8)])) then decide (f.1 ≤ (↑x : Int)) else false) = false → ((bif ByteArray.toList e == ByteArray.toList (ByteArray.mk (Array.mk [(65 : UInt8)])) then decide ((↑x : Int) < f.1) else false) = true → (vc52_2 c f e x) ∧ ((-9223372036854775808) ≤ (↑x : Int) + 1 ∧ (↑x : Int) + (1 : Int) ≤ 9223372036854775807) ∧ ∃ (y : Nat), (vc52_1 c f e x y) ∧ (y ≤ List.length c.1 ∧ dirE c f e = 0 ∧ ((factS c f.1 e).1 = 0 → False)) ∧ List.length c.1 - y < List.length c.1 - x) ∧ ((bif ByteArray.toList e == ByteArray.toList (ByteArray.mk (Array.mk [(65 : UInt8)])) then decide ((↑x : Int) < f.1) else false) = false → ((-9223372036854775808) ≤ (↑x : Int) + 1 ∧ (↑x : Int) + (1 : Int) ≤ 9223372036854775807) ∧ ∃ (y : Nat), (e = e ∧ (factS c f.1 e).1 = (factS c f.1 e).1 ∧ (factS c f.1 e).2 = (factS c f.1 e).2 ∧ selS (qP e f.1) 0 (List.take x c.1) (f.2.2.1 - f.2.1) = selS (qP e f.1) 0 (List.take y c.1) (f.2.2.1 - f.2.1) ∧ (↑(List.length c.1) : Int) = (↑(List.length c.1) : Int) ∧ (↑x : Int) + 1 = (↑y : Int) ∧ c.1 = c.1 ∧ f.1 = f.1 ∧ f.2.1 = f.2.1 ∧ f.2.2.1 = f.2.2.1 ∧ f.2.2.2 = f.2.2.2 ∧ (0 : Int) = 0 ∧ (0 : Int) = 0) ∧ (y ≤ List.length c.1 ∧ dirE c f e = 0 ∧ ((factS c f.1 e).1 = 0 → False)) ∧ List.length c.1 - y < List.length c.1 - x))) ∧ (decide ((↑x : Int) < (↑(List.length c.1) : Int)) = false → ((ByteArray.toList e == ByteArray.toList (ByteArray.mk (Array.mk [(65 : UInt8)]))) = true → (((-9223372036854775808 : Int) ≤ 2 * f.2.1 ∧ 2 * f.2.1 ≤ 9223372036854775807) ∧ I64 (selS (qP e f.1) 0 (List.take x c.1) (f.2.2.1 - f.2.1) + 2 * f.2.1)) ∧ (vc52_0 c f e) ∧ (selS (qP e f.1) 0 (List.take x c.1) (f.2.2.1 - f.2.1) + 2 * f.2.1, f.2.2.2 * Int.tdiv 262144 (factS c f.1 e).2 * (factS c f.1 e).1) = dirF c f e ∧ 0 = dirEE c f e) ∧ ((ByteArray.toList e == ByteArray.toList (ByteArray.mk (Array.mk [(65 : UInt8)]))) = false → (vc52_0 c f e) ∧ (selS (qP e f.1) 0 (List.take x c.1) (f.2.2.1 - f.2.1), f.2.2.2 * Int.tdiv 262144 (factS c f.1 e).2 * (factS c f.1 e).1) = dirF c f e ∧ 0 = dirEE c f e))))) := by
 intros
 kernel_rfl
theorem wp52 (c : Cab) (f : Flt) (e : ByteArray) : wpF Tryz.prog G78 (ann0 (annDir c f e)) Tryz.f52 cDirect (c, f, e, ()) := by
 refine (vc52 c f e).mpr ?_
 delta vc52_0 vc52_1 vc52_2 vc52_3
 delta I64
 intro h1 h2
 refine ⟨⟨h1, h2, by omega⟩, fun h => ?_, fun h => ?_⟩
 ·have h : ¬ dirE c f e = 0 := bne_iff_ne.1 h
  unfold dirF dirEE; rw [if_neg h, if_neg h]; exact ⟨rfl, rfl⟩
 have h : dirE c f e = 0 := bne_eq_false_iff_eq.1 h
 obtain ⟨hf, he⟩ := dirE_zero h
 obtain ⟨hc, hfv⟩ := fltS_V hf
 have hv := hfv.1
 obtain ⟨_, g1, g2, g3, g4, g5⟩ := id hfv
 have hlen := hv.2.1
 have b := hv.2.2.1 _ (getD_mem (d := (0, 0)) (l := c.1) (k := f.1.toNat) (by omega))
 have eF : dirF c f e = dirG c f e := if_pos h
 have eE : dirEE c f e = dirGE c f e := if_pos h
 refine ⟨⟨hc, by omega⟩, fun e1 => ?_, fun e1 => ?_⟩
 ·have e1 : (factS c f.1 e).1 = 0 := eq_of_beq e1
  rw [eF, eE]; unfold dirG dirGE; rw [if_pos e1, if_pos e1]; exact ⟨rfl, rfl⟩
 have e1 : ¬ (factS c f.1 e).1 = 0 := by
  have e1 : ((factS c f.1 e).1 == 0) = false := e1
  simpa using e1
 refine ⟨by omega, (0 : Nat), ⟨rfl, rfl, rfl, rfl, rfl, rfl, rfl, rfl, rfl, rfl, rfl, rfl, rfl⟩, ⟨Nat.zero_le _, h, e1⟩, fun (k : Nat) hk => ⟨fun hlt => ?_, fun hge => ?_⟩⟩
 ·have hlt : k < c.1.length := by simpa using hlt
  have st := sel_take (q := qP e f.1) (a := f.2.2.1 - f.2.1) hlt
  have sb := sel_bd (q := qP e f.1) (k := k) (a := f.2.2.1 - f.2.1) hv (by omega)
  have xb := hv.2.2.1 _ (getD_mem (d := (0, 0)) hlt)
  refine ⟨⟨by omega, by omega⟩, fun c1 => ?_, fun c1 => ⟨fun c2 => ?_, fun c2 => ?_⟩⟩
  ·have c1 : (bif isB e then decide (f.1 ≤ (k : Int)) else false) = true := c1
   have q : qP e f.1 k = true := by unfold qP; rw [c1]; rfl
   rw [q] at st
   exact ⟨by omega, by omega, (k + 1 : Nat), ⟨rfl, rfl, rfl, st.symm, rfl, by simp, rfl, rfl, rfl, rfl, rfl, rfl, rfl⟩, ⟨hlt, h, e1⟩, by omega⟩
  ·have c1 : (bif isB e then decide (f.1 ≤ (k : Int)) else false) = false := c1
   have c2 : (bif isA e then decide ((k : Int) < f.1) else false) = true := c2
   have q : qP e f.1 k = true := by unfold qP; rw [c1, c2]; rfl
   rw [q] at st
   exact ⟨by omega, by omega, (k + 1 : Nat), ⟨rfl, rfl, rfl, st.symm, rfl, by simp, rfl, rfl, rfl, rfl, rfl, rfl, rfl⟩, ⟨hlt, h, e1⟩, by omega⟩
  ·have c1 : (bif isB e then decide (f.1 ≤ (k : Int)) else false) = false := c1
   have c2 : (bif isA e then decide ((k : Int) < f.1) else false) = false := c2
   have q : qP e f.1 k = false := by unfold qP; rw [c1, c2]; rfl
   rw [q] at st
   exact ⟨by omega, (k + 1 : Nat), ⟨rfl, rfl, rfl, st.symm, rfl, by simp, rfl, rfl, rfl, rfl, rfl, rfl, rfl⟩, ⟨hlt, h, e1⟩, by omega⟩
 ·have hge : ¬ k < c.1.length := by simpa using hge
  have sb := sel_bd (q := qP e f.1) (k := k) (a := f.2.2.1 - f.2.1) hv (by omega)
  have hB := ht_bds (c := c) (s := f.1) (e := e) hv g4
  obtain ⟨_, j, hj, hd⟩ := factS_ok (s := f.1) (e := e) hv
  have hh : f.2.2.2 * (262144 : Int).tdiv (factS c f.1 e).2 * (factS c f.1 e).1 = heightR c f e := height_eq (by have := hv.2.2.2.1; omega) hd
  have ht := tick_eq (c := c) (f := f) (e := e) g1 he
  have eG : dirG c f e = (tickR c f e, heightR c f e) := if_neg e1
  have eGE : dirGE c f e = 0 := if_neg e1
  have et : c.1.take k = c.1 := List.take_of_length_le (by omega)
  refine ⟨fun ha => ?_, fun ha => ?_⟩
  ·have ha : isA e = true := ha
   refine ⟨⟨by omega, by omega⟩, hB, ?_, by rw [eE, eGE]⟩
   rw [eF, eG, ← hh, ← ht, et]
   unfold tickP; rw [ha]; rfl
  ·have ha : isA e = false := ha
   refine ⟨hB, ?_, by rw [eE, eGE]⟩
   rw [eF, eG, ← hh, ← ht, et]
   unfold tickP; rw [ha]; rfl
theorem ok52 [Sx.Dr] : Ok Tryz.prog 52 cDirect := ok_of_wp mixed g78 (by kernel_rfl) (by kernel_rfl) (fun xx => ann0 (annDir xx.1 xx.2.1 xx.2.2.1)) fun xx => wp52 xx.1 xx.2.1 xx.2.2.1
abbrev G79 : Gam := (52, cDirect) :: G78
theorem g79 [Sx.Dr] : GamOk Tryz.prog G79 := .cons ok52 g78
def cDirectR : Con := { args := [aCR, aF, aS], ress := [Pr, I], owns := [], pre := fun (c, f, e, _) => [dirE c f e = 0], spec := fun (c, f, e, _) => (dirG c f e, dirGE c f e, ()) }
abbrev annDirR (c : Cab) (f : Flt) (e : ByteArray) : Ann := { X := Nat, σ := fun k => ⟨5, [(2, .one (.str e)), (3, .one (.ptr 2 0)), (4, .one (.ptr 3 0)), (6, .one (.ptr 4 0)), (8, .one (.int .i64 (factS c f.1 e).1)), (9, .one (.int .i64 (factS c f.1 e).2)), (10, .one (.int .i64 (selS (qR e f.1) 0 (c.1.take k) (bif isB e then f.2.2.1 + (c.1.getD f.1.toNat (0, 0)).2 - f.2.1 else f.2.2.1 + f.2.1)))), (11, .one (.int .i64 k))], [(0, .imm 102 sPt c.1), (1, .imm 3 sI c.2.1), (2, .box 26 [.sl 0, .sl 1, .int .i64 c.2.2.1, .int .i64 c.2.2.2]), (3, .box 28 [.int .i64 f.1, .int .i64 f.2.1, .int .i64 f.2.2.1, .int .i64 f.2.2.2]), (4, .box 24 [.int .i64 0, .int .i64 0])]⟩, inv := fun k => k ≤ c.1.length ∧ (factS c f.1 e).1 ≠ 0, mu := fun k => c.1.length - k }
def vc66_0 (c : Cab) (f : Flt) (e : ByteArray) := (bif isB e then f.2.2.1 + (List.getD c.1 (Int.toNat f.1) ((0 : Int), (0 : Int))).2 - f.2.1 else f.2.2.1 + f.2.1)
def vc66_1 (c : Cab) (f : Flt) (e : ByteArray) (x : Nat) := (decide ((↑x : Int) < (↑(List.length c.1) : Int)) = false → (((-9223372036854775808 : Int) ≤ f.2.2.2 * (262144 : Int) ∧ f.2.2.2 * (262144 : Int) ≤ (9223372036854775807 : Int)) ∧ ((-9223372036854775808 : Int) ≤ f.2.2.2 * (262144 : Int) * (factS c f.1 e).1 ∧ f.2.2.2 * (262144 : Int) * (factS c f.1 e).1 ≤ (9223372036854775807 : Int)) ∧ ((factS c f.1 e).2 = (0 : Int) → False) ∧ (-9223372036854775808 : Int) ≤ Int.tdiv (f.2.2.2 * (262144 : Int) * (factS c f.1 e).1) (factS c f.1 e).2 ∧ Int.tdiv (f.2.2.2 * (262144 : Int) * (factS c f.1 e).1) (factS c f.1 e).2 ≤ (9223372036854775807 : Int)) ∧ (selS (qR e f.1) (0 : Nat) (List.take x c.1) (vc66_0 c f e), Int.tdiv (f.2.2.2 * (262144 : Int) * (factS c f.1 e).1) (factS c f.1 e).2) = dirG c f e ∧ (0 : Int) = dirGE c f e)
def vc66_2 (c : Cab) (f : Flt) (e : ByteArray) (x : Nat) := (bif bif ByteArray.toList e == ByteArray.toList (ByteArray.mk (Array.mk [(65 : UInt8)])) then decide ((↑x : Int) < f.1) else false then true else bif ByteArray.toList e == ByteArray.toList (ByteArray.mk (Array.mk [(66 : UInt8)])) then decide (f.1 < (↑x : Int)) else false)
def vc66_3 (c : Cab) (f : Flt) (e : ByteArray) (x : Nat) (y : Nat) := (e = e ∧ (factS c f.1 e).1 = (factS c f.1 e).1 ∧ (factS c f.1 e).2 = (factS c f.1 e).2 ∧ selS (qR e f.1) (0 : Nat) (List.take x c.1) (vc66_0 c f e) + (List.getD c.1 x ((0 : Int), (0 : Int))).2 = selS (qR e f.1) (0 : Nat) (List.take y c.1) (vc66_0 c f e) ∧ (↑x : Int) + (1 : Int) = (↑y : Int) ∧ c.1 = c.1 ∧ c.2.1 = c.2.1 ∧ c.2.2.1 = c.2.2.1 ∧ c.2.2.2 = c.2.2.2 ∧ f.1 = f.1 ∧ f.2.1 = f.2.1 ∧ f.2.2.1 = f.2.2.1 ∧ f.2.2.2 = f.2.2.2 ∧ (0 : Int) = (0 : Int) ∧ (0 : Int) = (0 : Int))
def vc66_4 (c : Cab) (f : Flt) (e : ByteArray) (x : Nat) (y : Nat) := (e = e ∧ (factS c f.1 e).1 = (factS c f.1 e).1 ∧ (factS c f.1 e).2 = (factS c f.1 e).2 ∧ selS (qR e f.1) (0 : Nat) (List.take x c.1) (vc66_0 c f e) = selS (qR e f.1) (0 : Nat) (List.take y c.1) (vc66_0 c f e) ∧ (↑x : Int) + (1 : Int) = (↑y : Int) ∧ c.1 = c.1 ∧ c.2.1 = c.2.1 ∧ c.2.2.1 = c.2.2.1 ∧ c.2.2.2 = c.2.2.2 ∧ f.1 = f.1 ∧ f.2.1 = f.2.1 ∧ f.2.2.1 = f.2.2.1 ∧ f.2.2.2 = f.2.2.2 ∧ (0 : Int) = (0 : Int) ∧ (0 : Int) = (0 : Int))
def vc66_5 (c : Cab) (f : Flt) (e : ByteArray) (x : Nat) := (((0 : Int) ≤ (↑x : Int) ∧ (↑x : Int) < (↑(List.length c.1) : Int)) ∧ ((0 : Int) ≤ (↑x : Int) ∧ (↑x : Int) < (↑(List.length c.1) : Int)) ∧ (-9223372036854775808 : Int) ≤ selS (qR e f.1) (0 : Nat) (List.take x c.1) (vc66_0 c f e) + (List.getD c.1 x ((0 : Int), (0 : Int))).2 ∧ selS (qR e f.1) (0 : Nat) (List.take x c.1) (vc66_0 c f e) + (List.getD c.1 x ((0 : Int), (0 : Int))).2 ≤ (9223372036854775807 : Int))
def vc66_6 (c : Cab) (f : Flt) (e : ByteArray) (x : Nat) := ((-9223372036854775808 : Int) ≤ (↑x : Int) + (1 : Int) ∧ (↑x : Int) + (1 : Int) ≤ (9223372036854775807 : Int))
def vc66_7 (c : Cab) (f : Flt) (e : ByteArray) := (factS (c.1, c.2.1, c.2.2.1, c.2.2.2) f.1 e)
theorem vc66 : ∀ (c : Cab) (f : Flt) (e : ByteArray), wpF Tryz.prog G79 (ann0 (annDirR c f e)) Tryz.f66 cDirectR (c, f, e, ()) = (dirE c f e = 0 → (cabS (c.1, c.2.1, c.2.2.1, c.2.2.2) = 0 ∧ (-1000) ≤ f.1 ∧ f.1 ≤ 1000) ∧ (((vc66_7 c f e).1 == 0) = true → (0, 0) = dirG c f e ∧ 7 = dirGE c f e) ∧ (((vc66_7 c f e).1 == 0) = false → (I64 (f.2.2.1 + f.2.1)) ∧ ((ByteArray.toList e == ByteArray.toList (ByteArray.mk (Array.mk [(66 : UInt8)]))) = true → ((0 ≤ f.1 ∧ f.1 < (↑(List.length c.1) : Int)) ∧ (0 ≤ f.1 ∧ f.1 < (↑(List.length c.1) : Int)) ∧ (I64 (f.2.2.1 + (List.getD c.1 (Int.toNat f.1) (0, 0)).2)) ∧ I64 (f.2.2.1 + (List.getD c.1 (Int.toNat f.1) (0, 0)).2 - f.2.1)) ∧ ∃ (x : Nat), (e = e ∧ (vc66_7 c f e).1 = (factS c f.1 e).1 ∧ (vc66_7 c f e).2 = (factS c f.1 e).2 ∧ f.2.2.1 + (List.getD c.1 (Int.toNat f.1) (0, 0)).2 - f.2.1 = selS (qR e f.1) 0 (List.take x c.1) (vc66_0 c f e) ∧ 0 = (↑x : Int) ∧ c.1 = c.1 ∧ c.2.1 = c.2.1 ∧ c.2.2.1 = c.2.2.1 ∧ c.2.2.2 = c.2.2.2 ∧ f.1 = f.1 ∧ f.2.1 = f.2.1 ∧ f.2.2.1 = f.2.2.1 ∧ f.2.2.2 = f.2.2.2 ∧ (0 : Int) = 0 ∧ (0 : Int) = 0) ∧ (x ≤ List.length c.1 ∧ ((factS c f.1 e).1 = 0 → False)) ∧ ∀ (x : Nat), x ≤ List.length c.1 ∧ ((factS c f.1 e).1 = 0 → False) → (decide ((↑x : Int) < (↑(List.length c.1) : Int)) = true → ((vc66_2 c f e x) = true → (vc66_5 c f e x) ∧ (vc66_6 c f e x) ∧ ∃ (y : Nat), (vc66_3 c f e x y) ∧ (y ≤ List.length c.1 ∧ ((factS c f.1 e).1 = 0 → False)) ∧ List.length c.1 - y < List.length c.1 - x) ∧ ((vc66_2 c f e x) = false → (vc66_6 c f e x) ∧ ∃ (y : Nat), (vc66_4 c f e x y) ∧ (y ≤ List.length c.1 ∧ ((factS c f.1 e).1 = 0 → False)) ∧ List.length c.1 - y < List.length c.1 - x)) ∧ (vc66_1 c f e x)) ∧ ((ByteArray.toList e == ByteArray.toList (ByteArray.mk (Array.mk [(66 : UInt8)]))) = false → ∃ (x : Nat), (e = e ∧ (vc66_7 c f e).1 = (factS c f.1 e).1 ∧ (vc66_7 c f e).2 = (factS c f.1 e).2 ∧ f.2.2.1 + f.2.1 = selS (qR e f.1) 0 (List.take x c.1) (vc66_0 c f e) ∧ 0 = (↑x : Int) ∧ c.1 = c.1 ∧ c.2.1 = c.2.1 ∧ c.2.2.1 = c.2.2.1 ∧ c.2.2.2 = c.2.2.2 ∧ f.1 = f.1 ∧ f.2.1 = f.2.1 ∧ f.2.2.1 = f.2.2.1 ∧ f.2.2.2 = f.2.2.2 ∧ (0 : Int) = 0 ∧ (0 : Int) = 0) ∧ (x ≤ List.length c.1 ∧ ((factS c f.1 e).1 = 0 → False)) ∧ ∀ (x : Nat), x ≤ List.length c.1 ∧ ((factS c f.1 e).1 = 0 → False) → (decide ((↑x : Int) < (↑(List.length c.1) : Int)) = true → ((vc66_2 c f e x) = true → (vc66_5 c f e x) ∧ (vc66_6 c f e x) ∧ ∃ (y : Nat), (vc66_3 c f e x y) ∧ (y ≤ List.length c.1 ∧ ((factS c f.1 e).1 = 0 → False)) ∧ List.length c.1 - y < List.length c.1 - x) ∧ ((vc66_2 c f e x) = false → (vc66_6 c f e x) ∧ ∃ (y : Nat), (vc66_4 c f e x y) ∧ (y ≤ List.length c.1 ∧ ((factS c f.1 e).1 = 0 → False)) ∧ List.length c.1 - y < List.length c.1 - x)) ∧ (vc66_1 c f e x)))) := by
 intros
 kernel_rfl
theorem wp66 (c : Cab) (f : Flt) (e : ByteArray) : wpF Tryz.prog G79 (ann0 (annDirR c f e)) Tryz.f66 cDirectR (c, f, e, ()) := by
 refine (vc66 c f e).mpr ?_
 delta vc66_0 vc66_1 vc66_2 vc66_3 vc66_4 vc66_5 vc66_6 vc66_7
 delta I64
 intro h
 obtain ⟨hf, he⟩ := dirE_zero h
 obtain ⟨hc, hfv⟩ := fltS_V hf
 have hv := hfv.1
 obtain ⟨_, g1, g2, g3, g4, g5⟩ := id hfv
 have hlen := hv.2.1
 have b := hv.2.2.1 _ (getD_mem (d := (0, 0)) (l := c.1) (k := f.1.toNat) (by omega))
 refine ⟨⟨hc, by omega⟩, fun e1 => ?_, fun e1 => ?_⟩
 ·have e1 : (factS c f.1 e).1 = 0 := eq_of_beq e1
  unfold dirG dirGE; rw [if_pos e1, if_pos e1]; exact ⟨rfl, rfl⟩
 have e1 : ¬ (factS c f.1 e).1 = 0 := by
  have e1 : ((factS c f.1 e).1 == 0) = false := e1
  simpa using e1
 have a0 : -100000 ≤ (bif isB e then f.2.2.1 + (c.1.getD f.1.toNat (0, 0)).2 - f.2.1 else f.2.2.1 + f.2.1) ∧ (bif isB e then f.2.2.1 + (c.1.getD f.1.toNat (0, 0)).2 - f.2.1 else f.2.2.1 + f.2.1) ≤ 200000 := by
  cases isB e <;> simp only [cond_true, cond_false] <;> omega
 refine ⟨by omega, fun hB => ⟨⟨g1, g1, by omega, by omega⟩, (0 : Nat), ⟨rfl, rfl, rfl, ?_, rfl, rfl, rfl, rfl, rfl, rfl, rfl, rfl, rfl, rfl, rfl⟩, ⟨Nat.zero_le _, e1⟩, ?_⟩, fun hB => ⟨(0 : Nat), ⟨rfl, rfl, rfl, ?_, rfl, rfl, rfl, rfl, rfl, rfl, rfl, rfl, rfl, rfl, rfl⟩, ⟨Nat.zero_le _, e1⟩, ?_⟩⟩
 ·have hB : isB e = true := hB
  rw [hB]; rfl
 rotate_left
 ·have hB : isB e = false := hB
  rw [hB]; rfl
 all_goals
  intro k hk
  refine ⟨fun hlt => ?_, fun hge => ?_⟩
  ·have hlt : k < c.1.length := by simpa using hlt
   have st := sel_take (q := qR e f.1) (a := bif isB e then f.2.2.1 + (c.1.getD f.1.toNat (0, 0)).2 - f.2.1 else f.2.2.1 + f.2.1) hlt
   have sb := sel_bd (q := qR e f.1) (k := k) hv a0
   have xb := hv.2.2.1 _ (getD_mem (d := (0, 0)) hlt)
   refine ⟨fun c1 => ?_, fun c1 => ?_⟩
   ·have c1 : qR e f.1 k = true := c1
    rw [c1] at st
    exact ⟨⟨by omega, by omega, by omega⟩, by omega, (k + 1 : Nat), ⟨rfl, rfl, rfl, st.symm, by simp, rfl, rfl, rfl, rfl, rfl, rfl, rfl, rfl, rfl, rfl⟩, ⟨hlt, e1⟩, by omega⟩
   ·have c1 : qR e f.1 k = false := c1
    rw [c1] at st
    exact ⟨by omega, (k + 1 : Nat), ⟨rfl, rfl, rfl, st.symm, by simp, rfl, rfl, rfl, rfl, rfl, rfl, rfl, rfl, rfl, rfl⟩, ⟨hlt, e1⟩, by omega⟩
  ·have hge : ¬ k < c.1.length := by simpa using hge
   have et : c.1.take k = c.1 := List.take_of_length_le (by omega)
   have eG : dirG c f e = (tickR c f e, heightR c f e) := if_neg e1
   have eGE : dirGE c f e = 0 := if_neg e1
   exact ⟨ht_bdr hv g4, by rw [eG, et]; rfl, eGE.symm⟩
theorem ok66 [Sx.Dr] : Ok Tryz.prog 66 cDirectR := ok_of_wp mixed g79 (by kernel_rfl) (by kernel_rfl) (fun xx => ann0 (annDirR xx.1 xx.2.1 xx.2.2.1)) fun xx => wp66 xx.1 xx.2.1 xx.2.2.1
abbrev G80 : Gam := (66, cDirectR) :: G79
theorem g80 [Sx.Dr] : GamOk Tryz.prog G80 := .cons ok66 g79
set_option maxHeartbeats 20000000
abbrev Zon : Type := (Int × Int) × Int × Int × ByteArray
abbrev sZ : Sch := .prod sPt (.prod sI (.prod sI .str))
abbrev aZ : AK := .val true sZ
def zoneS (z : Zon) (n : Int) : Int := firstS [if z.1.1 < 0 ∨ z.1.2 ≤ z.1.1 ∨ n < z.1.2 then 14 else 0, withinS z.2.1 1 1024, withinS z.2.2.1 1 1024, endS z.2.2.2]
theorem zone_cond (z : Zon) (n : Int) : (bif (bif decide (z.1.1 < 0) then true else decide (z.1.2 ≤ z.1.1)) then true else decide (n < z.1.2)) = decide (z.1.1 < 0 ∨ z.1.2 ≤ z.1.1 ∨ n < z.1.2) := by
 by_cases h1 : z.1.1 < 0 <;> by_cases h2 : z.1.2 ≤ z.1.1 <;> by_cases h3 : n < z.1.2 <;> simp [h1, h2, h3]
def cZone : Con := { args := [aZ, aI], ress := [I], owns := [], pre := fun _ => [], spec := fun (z, n, _) => (zoneS z n, ()) }
theorem vc121 : ∀ (z : Zon) (n : Int), wpF Tryz.prog G80 (na ()) Tryz.f121 cZone (z, n, ()) = (4 ≤ 1000000 ∧ firstS [bif bif bif decide (z.1.1 < 0) then true else decide (z.1.2 ≤ z.1.1) then true else decide (n < z.1.2) then 14 else 0, withinS z.2.1 1 1024, withinS z.2.2.1 1 1024, endS z.2.2.2] = zoneS z n) := by
 intros
 kernel_rfl
theorem wp121 (z : Zon) (n : Int) : wpF Tryz.prog G80 (na ()) Tryz.f121 cZone (z, n, ()) := by
 refine (vc121 z n).mpr ?_
 refine ⟨by omega, ?_⟩
 rw [zone_cond]
 unfold zoneS
 by_cases h : z.1.1 < 0 ∨ z.1.2 ≤ z.1.1 ∨ n < z.1.2
 ·rw [decide_eq_true h, if_pos h]; rfl
 ·rw [decide_eq_false h, if_neg h]; rfl
theorem ok121 [Sx.Dr] : Ok Tryz.prog 121 cZone := ok_of_wp mixed g80 (by kernel_rfl) (by kernel_rfl) na fun xx => wp121 xx.1 xx.2.1
abbrev G81 : Gam := (121, cZone) :: G80
theorem g81 [Sx.Dr] : GamOk Tryz.prog G81 := .cons ok121 g80
theorem vc60 : ∀ (z : Zon) (n : Int), wpF Tryz.prog G81 (na ()) Tryz.f60 cZone (z, n, ()) = (((bif bif decide (z.1.1 < 0) then true else decide (z.1.2 ≤ z.1.1) then true else decide (n < z.1.2)) = true → 14 = zoneS z n) ∧ ((bif bif decide (z.1.1 < 0) then true else decide (z.1.2 ≤ z.1.1) then true else decide (n < z.1.2)) = false → 3 ≤ 1000000 ∧ firstS [withinS z.2.1 1 1024, withinS z.2.2.1 1 1024, endS z.2.2.2] = zoneS z n)) := by
 intros
 kernel_rfl
theorem wp60 (z : Zon) (n : Int) : wpF Tryz.prog G81 (na ()) Tryz.f60 cZone (z, n, ()) := by
 refine (vc60 z n).mpr ?_
 rw [zone_cond]
 unfold zoneS
 refine ⟨fun h => ?_, fun h => ⟨by omega, ?_⟩⟩
 ·rw [if_pos (of_decide_eq_true h)]; rfl
 ·rw [if_neg (of_decide_eq_false h)]; rfl
theorem ok60 [Sx.Dr] : Ok Tryz.prog 60 cZone := ok_of_wp mixed g81 (by kernel_rfl) (by kernel_rfl) na fun xx => wp60 xx.1 xx.2.1
abbrev G82 : Gam := (60, cZone) :: G81
theorem g82 [Sx.Dr] : GamOk Tryz.prog G82 := .cons ok60 g81
theorem zoneS_V {z : Zon} {n : Int} (h : zoneS z n = 0) : (0 ≤ z.1.1 ∧ z.1.1 < z.1.2 ∧ z.1.2 ≤ n) ∧ (1 ≤ z.2.1 ∧ z.2.1 ≤ 1024) ∧ (1 ≤ z.2.2.1 ∧ z.2.2.1 ≤ 1024) ∧ endS z.2.2.2 = 0 := by
 have hz := firstS_zero (show firstS [_, _, _, _] = 0 from h)
 simp only [List.mem_cons, List.not_mem_nil, or_false, forall_eq_or_imp, forall_eq] at hz
 obtain ⟨a1, a2, a3, a4⟩ := hz
 have b2 := within_zero.1 a2
 have b3 := within_zero.1 a3
 have b1 : ¬ (z.1.1 < 0 ∨ z.1.2 ≤ z.1.1 ∨ n < z.1.2) := fun q => by rw [if_pos q] at a1; cases a1
 exact ⟨by omega, b2, b3, a4⟩
set_option maxHeartbeats 20000000
def oneS (c : Cab) (e : ByteArray) (k : Nat) : Int := (262144 : Int).tdiv (factS c k e).2 * (factS c k e).1
def thStep (c : Cab) (z : Zon) (k : Nat) (p : Int × Int) : Int × Int := if z.1.1 ≤ (k : Int) ∧ (k : Int) < z.1.2 then (p.1, min p.2 (z.2.1 * oneS c z.2.2.2 k)) else (max p.1 (z.2.2.1 * oneS c z.2.2.2 k + 1), p.2)
def thN (c : Cab) (z : Zon) (hi : Int) : Nat → Int × Int
 | 0 => (1, hi)
 | k + 1 => thStep c z k (thN c z hi k)
theorem rel_step {k i : Nat} {e : ByteArray} {s r : Int} {p : Int × Int} (h : facOk k p) (hp : p.1 ≤ 2 ^ k * p.2) (hd : 1 ≤ p.2) (hr : -8 ≤ r ∧ r ≤ 8) : (stepF e s i r p).1 ≤ 2 ^ (k + 1) * (stepF e s i r p).2 ∧ 1 ≤ (stepF e s i r p).2 := by
 obtain ⟨⟨h1, _⟩, _⟩ := h
 rw [Int.pow_succ]
 have h2 : (0 : Int) ≤ 2 ^ k := Int.le_of_lt (Int.pow_pos (by decide))
 generalize (2 : Int) ^ k = y at hp h2 ⊢
 have key : ∀ q : Int, 0 ≤ q ∧ q ≤ 16 → p.1 * q ≤ y * 2 * (p.2 * 8) ∧ 1 ≤ p.2 * 8 := fun q hq => by
  have a1 : p.1 * q ≤ p.1 * 16 := Int.mul_le_mul_of_nonneg_left hq.2 h1
  have a2 : y * 2 * (p.2 * 8) = y * p.2 * 16 := by rw [Int.mul_assoc, show 2 * (p.2 * 8) = p.2 * 16 by omega, ← Int.mul_assoc]
  rw [a2]; omega
 have same : p.1 ≤ y * 2 * p.2 ∧ 1 ≤ p.2 := by
  have a2 : y * 2 * p.2 = y * p.2 * 2 := by rw [Int.mul_assoc, Int.mul_comm 2, ← Int.mul_assoc]
  have a3 : 0 ≤ y * p.2 := Int.mul_nonneg h2 (by omega)
  rw [a2]; omega
 unfold stepF
 cases (bif isB e then decide (s ≤ (i : Int)) else false) with
 | true => exact key (8 + r) (by omega)
 | false =>
  cases (bif isA e then decide ((i : Int) < s) else false) with
  | true => exact key (8 - r) (by omega)
  | false => exact same
theorem rel_go {e : ByteArray} {s : Int} : ∀ {l : List Int} {i k : Nat} {p : Int × Int}, facOk k p → p.1 ≤ 2 ^ k * p.2 → 1 ≤ p.2 → (∀ r ∈ l, -8 ≤ r ∧ r ≤ 8) → (facGo e s i l p).1 ≤ 2 ^ (k + l.length) * (facGo e s i l p).2
 | [], _, _, _, _, h, _, _ => h
 | r :: l, i, k, p, h, hp, hd, hl => by
  have hr := hl r (by simp)
  have st := rel_step (i := i) (e := e) (s := s) h hp hd hr
  have := rel_go (e := e) (s := s) (l := l) (i := i + 1) (facOk_step (i := i) (e := e) (s := s) h hr) st.1 st.2 fun x hx => hl x (by simp [hx])
  rw [show k + 1 + l.length = k + (r :: l).length by simp only [List.length_cons]; omega] at this
  exact this
theorem pow2 {k : Nat} (h : k ≤ 5) : (2 : Int) ^ k ≤ 32 := by
 have : ∀ j, j < 6 → (2 : Int) ^ j ≤ 32 := by decide
 exact this k (by omega)
theorem oneS_bd {c : Cab} {e : ByteArray} {k : Nat} (hv : cabV c) : 0 ≤ oneS c e k ∧ oneS c e k ≤ 8388608 := by
 have hb := factS_bd (s := k) (e := e) hv
 have hr : (factS c k e).1 ≤ 2 ^ (0 + c.2.1.length) * (factS c k e).2 := rel_go (p := (1, 1)) ⟨⟨by decide, by decide⟩, 0, Nat.le_refl _, rfl⟩ (by decide) (by decide) hv.2.2.2.2.1
 have hl : 0 + c.2.1.length ≤ 5 := by have := hv.2.1; have := hv.2.2.2.1; omega
 have h2 := pow2 hl
 have a1 : (2 : Int) ^ (0 + c.2.1.length) * (factS c k e).2 ≤ 32 * (factS c k e).2 := Int.mul_le_mul_of_nonneg_right h2 (by omega)
 obtain ⟨_, j, hj, hd⟩ := factS_ok (s := k) (e := e) hv
 have hu := height_eq (H := 1) (n := (factS c k e).1) (d := (factS c k e).2) (j := j) (by have := hv.2.1; have := hv.2.2.2.1; omega) hd
 rw [Int.one_mul, Int.one_mul] at hu
 have e1 : oneS c e k = (262144 * (factS c k e).1).tdiv (factS c k e).2 := hu
 rw [e1, Int.tdiv_eq_ediv_of_nonneg (by omega)]
 refine ⟨Int.ediv_nonneg (by omega) (by omega), ?_⟩
 exact Int.ediv_le_of_le_mul (by omega) (by omega)
def thE (c : Cab) (z : Zon) : Int := firstS [cabS c, zoneS z c.1.length]
def thG (c : Cab) (z : Zon) : Int × Int := thN c z 1099511627776 c.1.length
def thF (c : Cab) (z : Zon) : Int × Int := if thE c z = 0 then (if (thG c z).2 < (thG c z).1 then (0, 0) else thG c z) else (0, 0)
def thEE (c : Cab) (z : Zon) : Int := if thE c z = 0 then (if (thG c z).2 < (thG c z).1 then 18 else 0) else thE c z
theorem thN_rel {c : Cab} {z : Zon} {A B : Int} (h : B ≤ A) : ∀ k, (thN c z A k).1 = (thN c z B k).1 ∧ (thN c z B k).2 = min B (thN c z A k).2
 | 0 => ⟨rfl, by show B = min B A; omega⟩
 | k + 1 => by
  obtain ⟨h1, h2⟩ := thN_rel (c := c) (z := z) h k
  simp only [thN, thStep]
  split
  ·refine ⟨h1, ?_⟩
   show min (thN c z B k).2 _ = min B (min (thN c z A k).2 _)
   omega
  ·exact ⟨by show max _ _ = max _ _; rw [h1], h2⟩
theorem mul_one_bd {c : Cab} {e : ByteArray} {k : Nat} (hv : cabV c) {n : Int} (hn : 1 ≤ n ∧ n ≤ 1024) : 0 ≤ n * oneS c e k ∧ n * oneS c e k ≤ 8589934592 := by
 have h := oneS_bd (e := e) (k := k) hv
 refine ⟨Int.mul_nonneg (by omega) h.1, ?_⟩
 have := Int.mul_le_mul hn.2 h.2 h.1 (by decide : (0 : Int) ≤ 1024)
 omega
theorem thN_le {c : Cab} {z : Zon} {A : Int} (hv : cabV c) (hz : zoneS z c.1.length = 0) : ∀ k : Nat, z.1.1 < (k : Int) → (thN c z A k).2 ≤ 8589934592
 | 0, h => by have := (zoneS_V hz).1; omega
 | k + 1, h => by
  have hZ := zoneS_V hz
  simp only [thN, thStep]
  by_cases e : z.1.1 = k
  ·rw [if_pos ⟨by omega, by omega⟩]
   have := mul_one_bd (e := z.2.2.2) (k := k) hv hZ.2.1
   show min _ _ ≤ _
   omega
  ·have ih := thN_le (A := A) hv hz k (by omega)
   split
   ·show min _ _ ≤ _
    omega
   ·exact ih
theorem thN_eq {c : Cab} {z : Zon} (hv : cabV c) (hz : zoneS z c.1.length = 0) : thN c z 1152921504606846976 c.1.length = thG c z := by
 have h := thN_rel (c := c) (z := z) (A := 1152921504606846976) (B := 1099511627776) (by decide) c.1.length
 have hl := thN_le (A := 1152921504606846976) hv hz c.1.length (by have := (zoneS_V hz).1; omega)
 unfold thG
 exact Prod.ext h.1 (by rw [h.2]; omega)
theorem thE_zero {c : Cab} {z : Zon} (h : thE c z = 0) : cabS c = 0 ∧ zoneS z c.1.length = 0 := by
 have hz := firstS_zero (show firstS [cabS c, zoneS z c.1.length] = 0 from h)
 simp only [List.mem_cons, List.not_mem_nil, or_false, forall_eq_or_imp, forall_eq] at hz
 exact hz
theorem zin {z : Zon} {k : Nat} : (bif decide (z.1.1 ≤ (k : Int)) then decide ((k : Int) < z.1.2) else false) = decide (z.1.1 ≤ (k : Int) ∧ (k : Int) < z.1.2) := by
 by_cases h1 : z.1.1 ≤ (k : Int) <;> by_cases h2 : (k : Int) < z.1.2 <;> simp [h1, h2]
theorem one_bds {c : Cab} {e : ByteArray} {k : Nat} (hv : cabV c) : ((factS c k e).2 = 0 → False) ∧ (-9223372036854775808 ≤ (262144 : Int).tdiv (factS c k e).2 ∧ (262144 : Int).tdiv (factS c k e).2 ≤ 9223372036854775807) ∧ -9223372036854775808 ≤ oneS c e k ∧ oneS c e k ≤ 9223372036854775807 := by
 have hb := factS_bd (s := k) (e := e) hv
 have t := tdiv_bd (a := 262144) (g := (factS c k e).2) (B := 262144) ⟨by decide, by decide⟩
 have h := oneS_bd (e := e) (k := k) hv
 exact ⟨by omega, by omega, by omega⟩
def cThresh : Con := { args := [aC, aZ], ress := [Pr, I], owns := [], pre := fun (c, _) => [c.1.length ≤ 1000000, c.2.1.length ≤ 1000000], spec := fun (c, z, _) => (thF c z, thEE c z, ()) }
abbrev annThr (c : Cab) (z : Zon) : Ann := { X := Nat, σ := fun k => ⟨6, [(2, .one (.ptr 2 0)), (3, .one (.ptr 3 0)), (4, .one (.ptr 4 0)), (7, .one (.ptr 5 0)), (28, .one (.int .i64 c.1.length)), (29, .one (.int .i64 k))], [(0, .imm 166 sPt c.1), (1, .imm 3 sI c.2.1), (2, .box 37 [.sl 0, .sl 1, .int .i64 c.2.2.1, .int .i64 c.2.2.2]), (3, .box 122 [.int .i64 z.1.1, .int .i64 z.1.2, .int .i64 z.2.1, .int .i64 z.2.2.1, .str z.2.2.2]), (4, .box 66 [.int .i64 0, .int .i64 0]), (5, .box 66 [.int .i64 (thN c z 1152921504606846976 k).1, .int .i64 (thN c z 1152921504606846976 k).2])]⟩, inv := fun k => k ≤ c.1.length ∧ thE c z = 0, mu := fun k => c.1.length - k }
def vc58_0 (c : Cab) (z : Zon) (x : Nat) := (factS (c.1, c.2.1, c.2.2.1, c.2.2.2) (↑x : Int) z.2.2.2)
def vc58_1 (c : Cab) (z : Zon) (x : Nat) := (Int.tdiv (262144 : Int) (vc58_0 c z x).2 * (vc58_0 c z x).1)
theorem vc58 : ∀ (c : Cab) (z : Zon), wpF Tryz.prog G82 (ann0 (annThr c z)) Tryz.f58 cThresh (c, z, ()) = (List.length c.1 ≤ 1000000 → List.length c.2.1 ≤ 1000000 → (List.length c.1 ≤ 1000000 ∧ List.length c.2.1 ≤ 1000000 ∧ 2 ≤ 1000000) ∧ ((firstS [cabS (c.1, c.2.1, c.2.2.1, c.2.2.2), zoneS ((z.1.1, z.1.2), z.2.1, z.2.2.1, z.2.2.2) (↑(List.length c.1) : Int)] != 0) = true → (0, 0) = thF c z ∧ firstS [cabS (c.1, c.2.1, c.2.2.1, c.2.2.2), zoneS ((z.1.1, z.1.2), z.2.1, z.2.2.1, z.2.2.2) (↑(List.length c.1) : Int)] = thEE c z) ∧ ((firstS [cabS (c.1, c.2.1, c.2.2.1, c.2.2.2), zoneS ((z.1.1, z.1.2), z.2.1, z.2.2.1, z.2.2.2) (↑(List.length c.1) : Int)] != 0) = false → ∃ (x : Nat), ((↑(List.length c.1) : Int) = (↑(List.length c.1) : Int) ∧ 0 = (↑x : Int) ∧ c.1 = c.1 ∧ c.2.1 = c.2.1 ∧ c.2.2.1 = c.2.2.1 ∧ c.2.2.2 = c.2.2.2 ∧ z.1.1 = z.1.1 ∧ z.1.2 = z.1.2 ∧ z.2.1 = z.2.1 ∧ z.2.2.1 = z.2.2.1 ∧ z.2.2.2 = z.2.2.2 ∧ (0 : Int) = 0 ∧ (0 : Int) = 0 ∧ 1 = (thN c z 1152921504606846976 x).1 ∧ 1152921504606846976 = (thN c z 1152921504606846976 x).2) ∧ (x ≤ List.length c.1 ∧ thE c z = 0) ∧ ∀ (x : Nat), x ≤ List.length c.1 ∧ thE c z = 0 → (decide ((↑x : Int) < (↑(List.length c.1) : Int)) = true → (cabS (c.1, c.2.1, c.2.2.1, c.2.2.2) = 0 ∧ (-1000) ≤ (↑x : Int) ∧ (↑x : Int) ≤ 1000) ∧ (((vc58_0 c z x).2 = 0 → False) ∧ (I64 (Int.tdiv 262144 (vc58_0 c z x).2)) ∧ I64 (Int.tdiv 262144 (vc58_0 c z x).2 * (vc58_0 c z x).1)) ∧ ((bif decide (z.1.1 ≤ (↑x : Int)) then decide ((↑x : Int) < z.1.2) else false) = true → (I64 (z.2.1 * (vc58_1 c z x))) ∧ ((-9223372036854775808) ≤ (↑x : Int) + 1 ∧ (↑x : Int) + (1 : Int) ≤ 9223372036854775807) ∧ ∃ (y : Nat), ((↑(List.length c.1) : Int) = (↑(List.length c.1) : Int) ∧ (↑x : Int) + 1 = (↑y : Int) ∧ c.1 = c.1 ∧ c.2.1 = c.2.1 ∧ c.2.2.1 = c.2.2.1 ∧ c.2.2.2 = c.2.2.2 ∧ z.1.1 = z.1.1 ∧ z.1.2 = z.1.2 ∧ z.2.1 = z.2.1 ∧ z.2.2.1 = z.2.2.1 ∧ z.2.2.2 = z.2.2.2 ∧ (0 : Int) = 0 ∧ (0 : Int) = 0 ∧ (thN c z 1152921504606846976 x).1 = (thN c z 1152921504606846976 y).1 ∧ min (thN c z 1152921504606846976 x).2 (z.2.1 * (vc58_1 c z x)) = (thN c z 1152921504606846976 y).2) ∧ (y ≤ List.length c.1 ∧ thE c z = 0) ∧ List.length c.1 - y < List.length c.1 - x) ∧ ((bif decide (z.1.1 ≤ (↑x : Int)) then decide ((↑x : Int) < z.1.2) else false) = false → ((I64 (z.2.2.1 * (vc58_1 c z x))) ∧ (-9223372036854775808) ≤ z.2.2.1 * (vc58_1 c z x) + 1 ∧ z.2.2.1 * (vc58_1 c z x) + (1 : Int) ≤ 9223372036854775807) ∧ ((-9223372036854775808) ≤ (↑x : Int) + 1 ∧ (↑x : Int) + (1 : Int) ≤ 9223372036854775807) ∧ ∃ (y : Nat), ((↑(List.length c.1) : Int) = (↑(List.length c.1) : Int) ∧ (↑x : Int) + 1 = (↑y : Int) ∧ c.1 = c.1 ∧ c.2.1 = c.2.1 ∧ c.2.2.1 = c.2.2.1 ∧ c.2.2.2 = c.2.2.2 ∧ z.1.1 = z.1.1 ∧ z.1.2 = z.1.2 ∧ z.2.1 = z.2.1 ∧ z.2.2.1 = z.2.2.1 ∧ z.2.2.2 = z.2.2.2 ∧ (0 : Int) = 0 ∧ (0 : Int) = 0 ∧ max (thN c z 1152921504606846976 x).1 (z.2.2.1 * (vc58_1 c z x) + 1) = (thN c z 1152921504606846976 y).1 ∧ (thN c z 1152921504606846976 x).2 = (thN c z 1152921504606846976 y).2) ∧ (y ≤ List.length c.1 ∧ thE c z = 0) ∧ List.length c.1 - y < List.length c.1 - x)) ∧ (decide ((↑x : Int) < (↑(List.length c.1) : Int)) = false → (decide ((thN c z 1152921504606846976 x).2 < (thN c z 1152921504606846976 x).1) = true → (0, 0) = thF c z ∧ 18 = thEE c z) ∧ (decide ((thN c z 1152921504606846976 x).2 < (thN c z 1152921504606846976 x).1) = false → ((thN c z 1152921504606846976 x).1, (thN c z 1152921504606846976 x).2) = thF c z ∧ 0 = thEE c z)))) := by
 intros
 kernel_rfl
theorem wp58 (c : Cab) (z : Zon) : wpF Tryz.prog G82 (ann0 (annThr c z)) Tryz.f58 cThresh (c, z, ()) := by
 refine (vc58 c z).mpr ?_
 delta vc58_0 vc58_1
 delta I64
 intro h1 h2
 refine ⟨⟨h1, h2, by omega⟩, fun h => ?_, fun h => ?_⟩
 ·have h : ¬ thE c z = 0 := bne_iff_ne.1 h
  unfold thF thEE; rw [if_neg h, if_neg h]; exact ⟨rfl, rfl⟩
 have h : thE c z = 0 := bne_eq_false_iff_eq.1 h
 obtain ⟨hc, hz⟩ := thE_zero h
 have hv : cabV c := cabS_V hc
 have hZ := zoneS_V hz
 have hlen := hv.2.1
 refine ⟨(0 : Nat), ⟨rfl, rfl, rfl, rfl, rfl, rfl, rfl, rfl, rfl, rfl, rfl, rfl, rfl, rfl, rfl⟩, ⟨Nat.zero_le _, h⟩, fun (k : Nat) hk => ⟨fun hlt => ?_, fun hge => ?_⟩⟩
 ·have hlt : k < c.1.length := by simpa using hlt
  have b1 := one_bds (e := z.2.2.2) (k := k) hv
  have b2 := mul_one_bd (e := z.2.2.2) (k := k) hv hZ.2.1
  have b3 := mul_one_bd (e := z.2.2.2) (k := k) hv hZ.2.2.1
  have b2' : -9223372036854775808 ≤ z.2.1 * oneS c z.2.2.2 k ∧ z.2.1 * oneS c z.2.2.2 k ≤ 9223372036854775807 := by omega
  have b3' : (-9223372036854775808 ≤ z.2.2.1 * oneS c z.2.2.2 k ∧ z.2.2.1 * oneS c z.2.2.2 k ≤ 9223372036854775807) ∧ -9223372036854775808 ≤ z.2.2.1 * oneS c z.2.2.2 k + 1 ∧ z.2.2.1 * oneS c z.2.2.2 k + 1 ≤ 9223372036854775807 := by omega
  have st : thN c z 1152921504606846976 (k + 1) = thStep c z k (thN c z 1152921504606846976 k) := rfl
  rw [zin]
  refine ⟨⟨hc, by omega⟩, b1, fun q => ?_, fun q => ?_⟩
  ·have q := of_decide_eq_true q
   have e1 : thStep c z k (thN c z 1152921504606846976 k) = ((thN c z 1152921504606846976 k).1, min (thN c z 1152921504606846976 k).2 (z.2.1 * oneS c z.2.2.2 k)) := if_pos q
   rw [e1] at st
   exact ⟨b2', by omega, (k + 1 : Nat), ⟨rfl, by simp, rfl, rfl, rfl, rfl, rfl, rfl, rfl, rfl, rfl, rfl, rfl, by rw [st], by rw [st]; rfl⟩, ⟨hlt, h⟩, by omega⟩
  ·have q := of_decide_eq_false q
   have e1 : thStep c z k (thN c z 1152921504606846976 k) = (max (thN c z 1152921504606846976 k).1 (z.2.2.1 * oneS c z.2.2.2 k + 1), (thN c z 1152921504606846976 k).2) := if_neg q
   rw [e1] at st
   exact ⟨b3', by omega, (k + 1 : Nat), ⟨rfl, by simp, rfl, rfl, rfl, rfl, rfl, rfl, rfl, rfl, rfl, rfl, rfl, by rw [st]; rfl, by rw [st]⟩, ⟨hlt, h⟩, by omega⟩
 ·have hge : ¬ k < c.1.length := by simpa using hge
  have ek : k = c.1.length := by omega
  rw [ek, thN_eq hv hz]
  have eF : thF c z = if (thG c z).2 < (thG c z).1 then (0, 0) else thG c z := if_pos h
  have eE : thEE c z = if (thG c z).2 < (thG c z).1 then 18 else 0 := if_pos h
  rw [eF, eE]
  refine ⟨fun q => ?_, fun q => ?_⟩
  ·have q := of_decide_eq_true q
   rw [if_pos q, if_pos q]; exact ⟨rfl, rfl⟩
  ·have q := of_decide_eq_false q
   rw [if_neg q, if_neg q]; exact ⟨rfl, rfl⟩
theorem ok58 [Sx.Dr] : Ok Tryz.prog 58 cThresh := ok_of_wp mixed g82 (by kernel_rfl) (by kernel_rfl) (fun xx => ann0 (annThr xx.1 xx.2.1)) fun xx => wp58 xx.1 xx.2.1
abbrev G83 : Gam := (58, cThresh) :: G82
theorem g83 [Sx.Dr] : GamOk Tryz.prog G83 := .cons ok58 g82
set_option maxHeartbeats 20000000
theorem one_eq {c : Cab} {e : ByteArray} {k : Nat} (hv : cabV c) (n : Int) : (n * 262144 * (factS c k e).1).tdiv (factS c k e).2 = n * oneS c e k := by
 obtain ⟨_, j, hj, hd⟩ := factS_ok (s := k) (e := e) hv
 have hu := height_eq (H := n) (n := (factS c k e).1) (d := (factS c k e).2) (j := j) (by have := hv.2.1; have := hv.2.2.2.1; omega) hd
 rw [← hu, Int.mul_assoc]; rfl
def thGF (c : Cab) (z : Zon) : Int × Int := if (thG c z).2 < (thG c z).1 then (0, 0) else thG c z
def thGE (c : Cab) (z : Zon) : Int := if (thG c z).2 < (thG c z).1 then 18 else 0
def cThreshR : Con := { args := [aCR, aZ], ress := [Pr, I], owns := [], pre := fun (c, z, _) => [thE c z = 0], spec := fun (c, z, _) => (thGF c z, thGE c z, ()) }
abbrev annThrR (c : Cab) (z : Zon) : Ann := { X := Nat, σ := fun k => ⟨6, [(2, .one (.ptr 2 0)), (3, .one (.ptr 3 0)), (4, .one (.ptr 4 0)), (6, .one (.ptr 5 0)), (7, .one (.int .i64 k))], [(0, .imm 102 sPt c.1), (1, .imm 3 sI c.2.1), (2, .box 26 [.sl 0, .sl 1, .int .i64 c.2.2.1, .int .i64 c.2.2.2]), (3, .box 119 [.int .i64 z.1.1, .int .i64 z.1.2, .int .i64 z.2.1, .int .i64 z.2.2.1, .str z.2.2.2]), (4, .box 66 [.int .i64 0, .int .i64 0]), (5, .box 66 [.int .i64 (thN c z 1099511627776 k).1, .int .i64 (thN c z 1099511627776 k).2])]⟩, inv := fun k => k ≤ c.1.length, mu := fun k => c.1.length - k }
def vc61_0 (c : Cab) (z : Zon) (x : Nat) := (factS (c.1, c.2.1, c.2.2.1, c.2.2.2) (↑x : Int) z.2.2.2)
theorem vc61 : ∀ (c : Cab) (z : Zon), wpF Tryz.prog G83 (ann0 (annThrR c z)) Tryz.f61 cThreshR (c, z, ()) = (thE c z = 0 → ∃ (x : Nat), (0 = (↑x : Int) ∧ c.1 = c.1 ∧ c.2.1 = c.2.1 ∧ c.2.2.1 = c.2.2.1 ∧ c.2.2.2 = c.2.2.2 ∧ z.1.1 = z.1.1 ∧ z.1.2 = z.1.2 ∧ z.2.1 = z.2.1 ∧ z.2.2.1 = z.2.2.1 ∧ z.2.2.2 = z.2.2.2 ∧ (0 : Int) = 0 ∧ (0 : Int) = 0 ∧ 1 = (thN c z 1099511627776 x).1 ∧ 1099511627776 = (thN c z 1099511627776 x).2) ∧ x ≤ List.length c.1 ∧ ∀ (x : Nat), x ≤ List.length c.1 → (decide ((↑x : Int) < (↑(List.length c.1) : Int)) = true → (cabS (c.1, c.2.1, c.2.2.1, c.2.2.2) = 0 ∧ (-1000) ≤ (↑x : Int) ∧ (↑x : Int) ≤ 1000) ∧ ((bif decide (z.1.1 ≤ (↑x : Int)) then decide ((↑x : Int) < z.1.2) else false) = true → (((-9223372036854775808) ≤ z.2.1 * 262144 ∧ z.2.1 * (262144 : Int) ≤ 9223372036854775807) ∧ (I64 (z.2.1 * 262144 * (vc61_0 c z x).1)) ∧ ((vc61_0 c z x).2 = 0 → False) ∧ I64 (Int.tdiv (z.2.1 * 262144 * (vc61_0 c z x).1) (vc61_0 c z x).2)) ∧ ((-9223372036854775808) ≤ (↑x : Int) + 1 ∧ (↑x : Int) + (1 : Int) ≤ 9223372036854775807) ∧ ∃ (y : Nat), ((↑x : Int) + 1 = (↑y : Int) ∧ c.1 = c.1 ∧ c.2.1 = c.2.1 ∧ c.2.2.1 = c.2.2.1 ∧ c.2.2.2 = c.2.2.2 ∧ z.1.1 = z.1.1 ∧ z.1.2 = z.1.2 ∧ z.2.1 = z.2.1 ∧ z.2.2.1 = z.2.2.1 ∧ z.2.2.2 = z.2.2.2 ∧ (0 : Int) = 0 ∧ (0 : Int) = 0 ∧ (thN c z 1099511627776 x).1 = (thN c z 1099511627776 y).1 ∧ min (thN c z 1099511627776 x).2 (Int.tdiv (z.2.1 * 262144 * (vc61_0 c z x).1) (vc61_0 c z x).2) = (thN c z 1099511627776 y).2) ∧ y ≤ List.length c.1 ∧ List.length c.1 - y < List.length c.1 - x) ∧ ((bif decide (z.1.1 ≤ (↑x : Int)) then decide ((↑x : Int) < z.1.2) else false) = false → (((-9223372036854775808) ≤ z.2.2.1 * 262144 ∧ z.2.2.1 * (262144 : Int) ≤ 9223372036854775807) ∧ (I64 (z.2.2.1 * 262144 * (vc61_0 c z x).1)) ∧ ((vc61_0 c z x).2 = 0 → False) ∧ (I64 (Int.tdiv (z.2.2.1 * 262144 * (vc61_0 c z x).1) (vc61_0 c z x).2)) ∧ (-9223372036854775808) ≤ Int.tdiv (z.2.2.1 * 262144 * (vc61_0 c z x).1) (vc61_0 c z x).2 + 1 ∧ Int.tdiv (z.2.2.1 * 262144 * (vc61_0 c z x).1) (vc61_0 c z x).2 + (1 : Int) ≤ 9223372036854775807) ∧ ((-9223372036854775808) ≤ (↑x : Int) + 1 ∧ (↑x : Int) + (1 : Int) ≤ 9223372036854775807) ∧ ∃ (y : Nat), ((↑x : Int) + 1 = (↑y : Int) ∧ c.1 = c.1 ∧ c.2.1 = c.2.1 ∧ c.2.2.1 = c.2.2.1 ∧ c.2.2.2 = c.2.2.2 ∧ z.1.1 = z.1.1 ∧ z.1.2 = z.1.2 ∧ z.2.1 = z.2.1 ∧ z.2.2.1 = z.2.2.1 ∧ z.2.2.2 = z.2.2.2 ∧ (0 : Int) = 0 ∧ (0 : Int) = 0 ∧ max (thN c z 1099511627776 x).1 (Int.tdiv (z.2.2.1 * 262144 * (vc61_0 c z x).1) (vc61_0 c z x).2 + 1) = (thN c z 1099511627776 y).1 ∧ (thN c z 1099511627776 x).2 = (thN c z 1099511627776 y).2) ∧ y ≤ List.length c.1 ∧ List.length c.1 - y < List.length c.1 - x)) ∧ (decide ((↑x : Int) < (↑(List.length c.1) : Int)) = false → (decide ((thN c z 1099511627776 x).2 < (thN c z 1099511627776 x).1) = true → (0, 0) = thGF c z ∧ 18 = thGE c z) ∧ (decide ((thN c z 1099511627776 x).2 < (thN c z 1099511627776 x).1) = false → ((thN c z 1099511627776 x).1, (thN c z 1099511627776 x).2) = thGF c z ∧ 0 = thGE c z))) := by
 intros
 kernel_rfl
theorem wp61 (c : Cab) (z : Zon) : wpF Tryz.prog G83 (ann0 (annThrR c z)) Tryz.f61 cThreshR (c, z, ()) := by
 refine (vc61 c z).mpr ?_
 delta vc61_0
 delta I64
 intro h
 obtain ⟨hc, hz⟩ := thE_zero h
 have hv : cabV c := cabS_V hc
 have hZ := zoneS_V hz
 have hlen := hv.2.1
 refine ⟨(0 : Nat), ⟨rfl, rfl, rfl, rfl, rfl, rfl, rfl, rfl, rfl, rfl, rfl, rfl, rfl, rfl⟩, Nat.zero_le _, fun (k : Nat) hk => ⟨fun hlt => ?_, fun hge => ?_⟩⟩
 ·have hlt : k < c.1.length := by simpa using hlt
  have b2 := ht_bdr (c := c) (s := k) (e := z.2.2.2) (H := z.2.1) hv (by omega)
  have b3 := ht_bdr (c := c) (s := k) (e := z.2.2.2) (H := z.2.2.1) hv (by omega)
  have o2 := one_eq (c := c) (e := z.2.2.2) (k := k) hv z.2.1
  have o3 := one_eq (c := c) (e := z.2.2.2) (k := k) hv z.2.2.1
  have m3 := mul_one_bd (e := z.2.2.2) (k := k) hv hZ.2.2.1
  have st : thN c z 1099511627776 (k + 1) = thStep c z k (thN c z 1099511627776 k) := rfl
  rw [zin]
  refine ⟨⟨hc, by omega⟩, fun q => ?_, fun q => ?_⟩
  ·have q := of_decide_eq_true q
   have e1 : thStep c z k (thN c z 1099511627776 k) = ((thN c z 1099511627776 k).1, min (thN c z 1099511627776 k).2 (z.2.1 * oneS c z.2.2.2 k)) := if_pos q
   rw [e1, ← o2] at st
   exact ⟨b2, by omega, (k + 1 : Nat), ⟨by simp, rfl, rfl, rfl, rfl, rfl, rfl, rfl, rfl, rfl, rfl, rfl, by rw [st], by rw [st]⟩, hlt, by omega⟩
  ·have q := of_decide_eq_false q
   have e1 : thStep c z k (thN c z 1099511627776 k) = (max (thN c z 1099511627776 k).1 (z.2.2.1 * oneS c z.2.2.2 k + 1), (thN c z 1099511627776 k).2) := if_neg q
   rw [e1, ← o3] at st
   have m4 : -9223372036854775808 ≤ (z.2.2.1 * 262144 * (factS c k z.2.2.2).1).tdiv (factS c k z.2.2.2).2 + 1 ∧ (z.2.2.1 * 262144 * (factS c k z.2.2.2).1).tdiv (factS c k z.2.2.2).2 + 1 ≤ 9223372036854775807 := by rw [o3]; omega
   exact ⟨⟨b3.1, b3.2.1, b3.2.2.1, b3.2.2.2, m4⟩, by omega, (k + 1 : Nat), ⟨by simp, rfl, rfl, rfl, rfl, rfl, rfl, rfl, rfl, rfl, rfl, rfl, by rw [st], by rw [st]⟩, hlt, by omega⟩
 ·have hge : ¬ k < c.1.length := by simpa using hge
  have ek : thN c z 1099511627776 k = thG c z := by rw [show k = c.1.length by omega]; rfl
  rw [ek]
  unfold thGF thGE
  refine ⟨fun q => ?_, fun q => ?_⟩
  ·have q := of_decide_eq_true q
   rw [if_pos q, if_pos q]; exact ⟨rfl, rfl⟩
  ·have q := of_decide_eq_false q
   rw [if_neg q, if_neg q]; exact ⟨rfl, rfl⟩
theorem ok61 [Sx.Dr] : Ok Tryz.prog 61 cThreshR := ok_of_wp mixed g83 (by kernel_rfl) (by kernel_rfl) (fun xx => ann0 (annThrR xx.1 xx.2.1)) fun xx => wp61 xx.1 xx.2.1
abbrev G84 : Gam := (61, cThreshR) :: G83
theorem g84 [Sx.Dr] : GamOk Tryz.prog G84 := .cons ok61 g83
set_option maxHeartbeats 20000000
def arrB (l : List Arr) : Prop := ∀ a ∈ l, -80000000000000 ≤ a.2.2 ∧ a.2.2 ≤ 80000000000000
theorem chk_bd : ∀ {l : List Arr} {p : Option Arr}, chkGo p l = 0 → arrB l
 | [], _, _ => fun a ha => by simp at ha
 | a :: r, p, h => by
  simp only [chkGo] at h
  split at h
  ·rename_i h0
   have hz := firstS_zero (show firstS [_, _, _, _] = 0 from h0)
   simp only [List.mem_cons, List.not_mem_nil, or_false, forall_eq_or_imp, forall_eq] at hz
   have b := within_zero.1 hz.2.2.1
   intro x hx
   rcases List.mem_cons.1 hx with rfl | hx
   ·exact ⟨by omega, by omega⟩
   ·exact chk_bd h x hx
  ·rename_i h0; exact absurd h h0
theorem arrE_bd {l : List Arr} (h : arrE l = 0) : arrB l ∧ l.length ≤ 2048 := by
 unfold arrE at h
 split at h
 ·cases h
 ·exact ⟨chk_bd h, by omega⟩
theorem find_bd {l : List Arr} (h : arrB l) (e : ByteArray) : -80000000000000 ≤ ((findA e l).getD dA).2.2 ∧ ((findA e l).getD dA).2.2 ≤ 80000000000000 := by
 cases hf : findA e l with
 | none => exact ⟨by decide, by decide⟩
 | some a => exact h a (List.mem_of_find?_eq_some hf)
def tripS (l : List Arr) (e : ByteArray) (t : Int) : Bool := bif (findA e l).isSome then decide (t ≤ max ((findA e l).getD dA).2.2 (0 - ((findA e l).getD dA).2.2)) else false
def cTrip : Con := { args := [.val false (.list 107 sArr), aS, aI], ress := [Bo], owns := [], pre := fun (l, _) => [l.length ≤ 1000000, arrB l], spec := fun (l, e, t, _) => (tripS l e t, ()) }
theorem vc114 : ∀ (l : List Arr) (e : ByteArray) (t : Int), wpF Tryz.prog G84 (na ()) Tryz.f114 cTrip (l, e, t, ()) = (List.length l ≤ 1000000 → arrB l → List.length l ≤ 1000000 ∧ (Option.isSome (findA e l) = true → (-9223372036854775808 : Int) ≤ 0 - (Option.getD (findA e l) dA).2.2 ∧ 0 - (Option.getD (findA e l) dA).2.2 ≤ 9223372036854775807) ∧ (bif Option.isSome (findA e l) then decide (t ≤ max (Option.getD (findA e l) dA).2.2 (0 - (Option.getD (findA e l) dA).2.2)) else false) = tripS l e t) := by
 intros
 kernel_rfl
theorem wp114 (l : List Arr) (e : ByteArray) (t : Int) : wpF Tryz.prog G84 (na ()) Tryz.f114 cTrip (l, e, t, ()) := by
 refine (vc114 l e t).mpr ?_
 intro h1 h2
 have b := find_bd h2 e
 exact ⟨h1, fun _ => by omega, rfl⟩
theorem ok114 [Sx.Dr] : Ok Tryz.prog 114 cTrip := ok_of_wp mixed g84 (by kernel_rfl) (by kernel_rfl) na fun xx => wp114 xx.1 xx.2.1 xx.2.2.1
abbrev G85 : Gam := (114, cTrip) :: G84
theorem g85 [Sx.Dr] : GamOk Tryz.prog G85 := .cons ok114 g84
def cTripR : Con := { args := [.val false (.list 130 sArr), aS, aI], ress := [Bo], owns := [], pre := fun (l, _) => [l.length ≤ 1000000, arrB l], spec := fun (l, e, t, _) => (tripS l e t, ()) }
theorem vc62 : ∀ (l : List Arr) (e : ByteArray) (t : Int), wpF Tryz.prog G85 (na ()) Tryz.f62 cTripR (l, e, t, ()) = (List.length l ≤ (1000000 : Nat) → arrB l → List.length l ≤ (1000000 : Nat) ∧ (((if Option.isSome (findA e l) = true then (0 : Int) else (7 : Int)) == (0 : Int)) = true → (-9223372036854775808 : Int) ≤ (0 : Int) - (Option.getD (findA e l) dA).2.2 ∧ (0 : Int) - (Option.getD (findA e l) dA).2.2 ≤ (9223372036854775807 : Int)) ∧ (bif (if Option.isSome (findA e l) = true then (0 : Int) else (7 : Int)) == (0 : Int) then decide (t ≤ max (Option.getD (findA e l) dA).2.2 ((0 : Int) - (Option.getD (findA e l) dA).2.2)) else false) = tripS l e t) := by
 intros
 kernel_rfl
theorem wp62 (l : List Arr) (e : ByteArray) (t : Int) : wpF Tryz.prog G85 (na ()) Tryz.f62 cTripR (l, e, t, ()) := by
 refine (vc62 l e t).mpr ?_
 intro h1 h2
 have b := find_bd h2 e
 refine ⟨h1, fun _ => by omega, ?_⟩
 unfold tripS
 cases (findA e l).isSome <;> rfl
theorem ok62 [Sx.Dr] : Ok Tryz.prog 62 cTripR := ok_of_wp mixed g85 (by kernel_rfl) (by kernel_rfl) na fun xx => wp62 xx.1 xx.2.1 xx.2.2.1
abbrev G86 : Gam := (62, cTripR) :: G85
theorem g86 [Sx.Dr] : GamOk Tryz.prog G86 := .cons ok62 g85
def tripE (l : List Arr) (z : Zon) (t : Int) : Int := firstS [arrE l, zoneS z 6, thrS t]
def tripF (l : List Arr) (z : Zon) (t : Int) : Bool := if tripE l z t = 0 then tripS l z.2.2.2 t else false
def cTrips : Con := { args := [.val false (.list 107 sArr), aZ, aI], ress := [Bo, I], owns := [], pre := fun (l, _) => [l.length ≤ 1000000], spec := fun (l, z, t, _) => (tripF l z t, tripE l z t, ()) }
theorem vc59 : ∀ (l : List Arr) (z : Zon) (t : Int), wpF Tryz.prog G86 (na ()) Tryz.f59 cTrips (l, z, t, ()) = (List.length l ≤ 1000000 → (List.length l ≤ 1000000 ∧ 3 ≤ 1000000) ∧ ((firstS [arrE l, zoneS ((z.1.1, z.1.2), z.2.1, z.2.2.1, z.2.2.2) 6, thrS t] != 0) = true → false = tripF l z t ∧ firstS [arrE l, zoneS ((z.1.1, z.1.2), z.2.1, z.2.2.1, z.2.2.2) 6, thrS t] = tripE l z t) ∧ ((firstS [arrE l, zoneS ((z.1.1, z.1.2), z.2.1, z.2.2.1, z.2.2.2) 6, thrS t] != 0) = false → (List.length l ≤ 1000000 ∧ arrB l) ∧ tripS l z.2.2.2 t = tripF l z t ∧ 0 = tripE l z t)) := by
 intros
 kernel_rfl
theorem wp59 (l : List Arr) (z : Zon) (t : Int) : wpF Tryz.prog G86 (na ()) Tryz.f59 cTrips (l, z, t, ()) := by
 refine (vc59 l z t).mpr ?_
 intro h1
 refine ⟨⟨h1, by omega⟩, fun h => ?_, fun h => ?_⟩
 ·have h : ¬ tripE l z t = 0 := bne_iff_ne.1 h
  unfold tripF; rw [if_neg h]; exact ⟨rfl, rfl⟩
 ·have h : tripE l z t = 0 := bne_eq_false_iff_eq.1 h
  have hz := firstS_zero (show firstS [arrE l, zoneS z 6, thrS t] = 0 from h)
  simp only [List.mem_cons, List.not_mem_nil, or_false, forall_eq_or_imp, forall_eq] at hz
  unfold tripF; rw [if_pos h]
  exact ⟨⟨h1, (arrE_bd hz.1).1⟩, rfl, h.symm⟩
theorem ok59 [Sx.Dr] : Ok Tryz.prog 59 cTrips := ok_of_wp mixed g86 (by kernel_rfl) (by kernel_rfl) na fun xx => wp59 xx.1 xx.2.1 xx.2.2.1
abbrev G87 : Gam := (59, cTrips) :: G86
theorem g87 [Sx.Dr] : GamOk Tryz.prog G87 := .cons ok59 g86
set_option maxHeartbeats 20000000
def okAt (e : ByteArray) (t : Int) (a : Arr) : Bool := bif isEnd e a then decide (a.1 ≤ t) else false
def sumGo (e : ByteArray) (t : Int) : List Arr → Int → Int
 | [], n => n
 | a :: r, n => sumGo e t r (bif okAt e t a then n + a.2.2 else n)
def sumAt (l : List Arr) (e : ByteArray) (t : Int) : Int := sumGo e t l 0
theorem sum_drop {e : ByteArray} {t n : Int} {l : List Arr} {k : Nat} (h : k < l.length) : sumGo e t (l.drop k) n = sumGo e t (l.drop (k + 1)) (bif okAt e t (l.getD k dA) then n + (l.getD k dA).2.2 else n) := by
 rw [drop_cons (d := dA) h]; rfl
abbrev annSum (T : TypeId) (a b i : Tmp) (l : List Arr) (e : ByteArray) (t : Int) : Ann := { X := Nat × Int, σ := fun p => ⟨1, [(1, .one (.str e)), (2, .one (.int .i64 t)), (7, .one (.int .i64 p.2)), (a, .one (.sl 0)), (b, .one (.int .i64 l.length)), (i, .one (.int .i64 p.1))], [(0, .imm T sArr l)]⟩, inv := fun p => p.1 ≤ l.length ∧ (-(80000000000000 * (p.1 : Int)) ≤ p.2 ∧ p.2 ≤ 80000000000000 * p.1) ∧ sumAt l e t = sumGo e t (l.drop p.1) p.2, mu := fun p => l.length - p.1 }
def cSumA (T : TypeId) : Con := { args := [.val false (.list T sArr), aS, aI], ress := [I], owns := [], pre := fun (l, _) => [l.length ≤ 100000, arrB l], spec := fun (l, e, t, _) => (sumAt l e t, ()) }
def vc96_0 (l : List Arr) (e : ByteArray) (t : Int) (x : Nat × Int) := (List.getD l x.1 ((0 : Int), ByteArray.mk (Array.mk []), (0 : Int)))
theorem vc96 : ∀ (l : List Arr) (e : ByteArray) (t : Int), wpF Tryz.prog G87 (ann0 (annSum (107 : TypeId) (10 : Tmp) (11 : Tmp) (12 : Tmp) l e t)) Tryz.f96 (cSumA (107 : TypeId)) (l, e, t, ()) = (List.length l ≤ 100000 → arrB l → ∃ (x : Nat × Int), (e = e ∧ t = t ∧ 0 = x.2 ∧ (↑(List.length l) : Int) = (↑(List.length l) : Int) ∧ 0 = (↑x.1 : Int) ∧ l = l) ∧ (x.1 ≤ List.length l ∧ (-(80000000000000 * (↑x.1 : Int)) ≤ x.2 ∧ x.2 ≤ 80000000000000 * (↑x.1 : Int)) ∧ sumAt l e t = sumGo e t (List.drop x.1 l) x.2) ∧ ∀ (x : Nat × Int), x.1 ≤ List.length l ∧ (-(80000000000000 * (↑x.1 : Int)) ≤ x.2 ∧ x.2 ≤ 80000000000000 * (↑x.1 : Int)) ∧ sumAt l e t = sumGo e t (List.drop x.1 l) x.2 → (decide ((↑x.1 : Int) < (↑(List.length l) : Int)) = true → ((0 ≤ (↑x.1 : Int) ∧ (↑x.1 : Int) < (↑(List.length l) : Int)) ∧ 0 ≤ (↑x.1 : Int) ∧ (↑x.1 : Int) < (↑(List.length l) : Int)) ∧ ((bif ByteArray.toList (vc96_0 l e t x).2.1 == ByteArray.toList e then decide ((vc96_0 l e t x).1 ≤ t) else false) = true → (I64 (x.2 + (vc96_0 l e t x).2.2)) ∧ ((-9223372036854775808) ≤ (↑x.1 : Int) + 1 ∧ (↑x.1 : Int) + (1 : Int) ≤ 9223372036854775807) ∧ ∃ (y : Nat × Int), (e = e ∧ t = t ∧ x.2 + (vc96_0 l e t x).2.2 = y.2 ∧ (↑(List.length l) : Int) = (↑(List.length l) : Int) ∧ (↑x.1 : Int) + 1 = (↑y.1 : Int) ∧ l = l) ∧ (y.1 ≤ List.length l ∧ (-(80000000000000 * (↑y.1 : Int)) ≤ y.2 ∧ y.2 ≤ 80000000000000 * (↑y.1 : Int)) ∧ sumAt l e t = sumGo e t (List.drop y.1 l) y.2) ∧ List.length l - y.1 < List.length l - x.1) ∧ ((bif ByteArray.toList (vc96_0 l e t x).2.1 == ByteArray.toList e then decide ((vc96_0 l e t x).1 ≤ t) else false) = false → ((-9223372036854775808) ≤ (↑x.1 : Int) + 1 ∧ (↑x.1 : Int) + (1 : Int) ≤ 9223372036854775807) ∧ ∃ (y : Nat × Int), (e = e ∧ t = t ∧ x.2 = y.2 ∧ (↑(List.length l) : Int) = (↑(List.length l) : Int) ∧ (↑x.1 : Int) + 1 = (↑y.1 : Int) ∧ l = l) ∧ (y.1 ≤ List.length l ∧ (-(80000000000000 * (↑y.1 : Int)) ≤ y.2 ∧ y.2 ≤ 80000000000000 * (↑y.1 : Int)) ∧ sumAt l e t = sumGo e t (List.drop y.1 l) y.2) ∧ List.length l - y.1 < List.length l - x.1)) ∧ (decide ((↑x.1 : Int) < (↑(List.length l) : Int)) = false → x.2 = sumAt l e t)) := by
 intros
 kernel_rfl
theorem wp96 (l : List Arr) (e : ByteArray) (t : Int) : wpF Tryz.prog G87 (ann0 (annSum 107 10 11 12 l e t)) Tryz.f96 (cSumA 107) (l, e, t, ()) := by
 refine (vc96 l e t).mpr ?_
 delta vc96_0
 delta I64
 intro h1 h2
 refine ⟨((0 : Nat), (0 : Int)), ⟨rfl, rfl, rfl, rfl, rfl, rfl⟩, ⟨Nat.zero_le _, ⟨by decide, by decide⟩, rfl⟩, fun p hp => ?_⟩
 obtain ⟨k, n⟩ := p
 obtain ⟨i1, i2, i3⟩ := hp
 replace i1 : k ≤ l.length := i1
 replace i2 : -(80000000000000 * (k : Int)) ≤ n ∧ n ≤ 80000000000000 * k := i2
 replace i3 : sumAt l e t = sumGo e t (l.drop k) n := i3
 refine ⟨fun h => ?_, fun h => ?_⟩
 ·have hlt : k < l.length := by
   have h : (k : Int) < l.length := of_decide_eq_true h
   omega
  have hd := sum_drop (e := e) (t := t) (n := n) hlt
  have hb := h2 _ (getD_mem (d := dA) hlt)
  have kk : 0 ≤ (k : Int) ∧ (k : Int) < l.length := by omega
  rw [hd] at i3
  refine ⟨⟨kk, kk⟩, fun q => ?_, fun q => ?_⟩
  ·have q : okAt e t (l.getD k dA) = true := q
   rw [q] at i3
   have b1 : -9223372036854775808 ≤ n + (l.getD k dA).2.2 ∧ n + (l.getD k dA).2.2 ≤ 9223372036854775807 := by omega
   have b2 : -(80000000000000 * ((k + 1 : Nat) : Int)) ≤ n + (l.getD k dA).2.2 ∧ n + (l.getD k dA).2.2 ≤ 80000000000000 * ((k + 1 : Nat) : Int) := by omega
   exact ⟨b1, by show -9223372036854775808 ≤ (k : Int) + 1 ∧ (k : Int) + 1 ≤ 9223372036854775807; omega, (k + 1, n + (l.getD k dA).2.2), ⟨rfl, rfl, rfl, rfl, by simp, rfl⟩, ⟨hlt, b2, i3⟩, by show l.length - (k + 1) < l.length - k; omega⟩
  ·have q : okAt e t (l.getD k dA) = false := q
   rw [q] at i3
   have b2 : -(80000000000000 * ((k + 1 : Nat) : Int)) ≤ n ∧ n ≤ 80000000000000 * ((k + 1 : Nat) : Int) := by omega
   exact ⟨by show -9223372036854775808 ≤ (k : Int) + 1 ∧ (k : Int) + 1 ≤ 9223372036854775807; omega, (k + 1, n), ⟨rfl, rfl, rfl, rfl, by simp, rfl⟩, ⟨hlt, b2, i3⟩, by show l.length - (k + 1) < l.length - k; omega⟩
 ·have hge : ¬ k < l.length := by
   have h : ¬ (k : Int) < l.length := of_decide_eq_false h
   omega
  rw [i3, List.drop_of_length_le (by omega)]
  rfl
theorem ok96 [Sx.Dr] : Ok Tryz.prog 96 (cSumA 107) := ok_of_wp mixed g87 (by kernel_rfl) (by kernel_rfl) (fun xx => ann0 (annSum 107 10 11 12 xx.1 xx.2.1 xx.2.2.1)) fun xx => wp96 xx.1 xx.2.1 xx.2.2.1
abbrev G88 : Gam := (96, (cSumA 107)) :: G87
theorem g88 [Sx.Dr] : GamOk Tryz.prog G88 := .cons ok96 g87
abbrev annSumR (l : List Arr) (e : ByteArray) (t : Int) : Ann := { X := Nat × Int, σ := fun p => ⟨1, [(0, .one (.sl 0)), (1, .one (.str e)), (2, .one (.int .i64 t)), (7, .one (.int .i64 p.2)), (8, .one (.int .i64 p.1))], [(0, .imm 130 sArr l)]⟩, inv := fun p => p.1 ≤ l.length ∧ (-(80000000000000 * (p.1 : Int)) ≤ p.2 ∧ p.2 ≤ 80000000000000 * p.1) ∧ sumAt l e t = sumGo e t (l.drop p.1) p.2, mu := fun p => l.length - p.1 }
def vc100_0 (l : List Arr) (e : ByteArray) (t : Int) (x : Nat × Int) := (List.getD l x.1 ((0 : Int), ByteArray.mk (Array.mk []), (0 : Int)))
theorem vc100 : ∀ (l : List Arr) (e : ByteArray) (t : Int), wpF Tryz.prog G88 (ann0 (annSumR l e t)) Tryz.f100 (cSumA (130 : TypeId)) (l, e, t, ()) = (List.length l ≤ 100000 → arrB l → ∃ (x : Nat × Int), (e = e ∧ t = t ∧ 0 = x.2 ∧ 0 = (↑x.1 : Int) ∧ l = l) ∧ (x.1 ≤ List.length l ∧ (-(80000000000000 * (↑x.1 : Int)) ≤ x.2 ∧ x.2 ≤ 80000000000000 * (↑x.1 : Int)) ∧ sumAt l e t = sumGo e t (List.drop x.1 l) x.2) ∧ ∀ (x : Nat × Int), x.1 ≤ List.length l ∧ (-(80000000000000 * (↑x.1 : Int)) ≤ x.2 ∧ x.2 ≤ 80000000000000 * (↑x.1 : Int)) ∧ sumAt l e t = sumGo e t (List.drop x.1 l) x.2 → (decide ((↑x.1 : Int) < (↑(List.length l) : Int)) = true → ((0 ≤ (↑x.1 : Int) ∧ (↑x.1 : Int) < (↑(List.length l) : Int)) ∧ (0 ≤ (↑x.1 : Int) ∧ (↑x.1 : Int) < (↑(List.length l) : Int)) ∧ ((ByteArray.toList (vc100_0 l e t x).2.1 == ByteArray.toList e) = true → 0 ≤ (↑x.1 : Int) ∧ (↑x.1 : Int) < (↑(List.length l) : Int)) ∧ ((ByteArray.toList (vc100_0 l e t x).2.1 == ByteArray.toList e) = true → 0 ≤ (↑x.1 : Int) ∧ (↑x.1 : Int) < (↑(List.length l) : Int))) ∧ ((bif ByteArray.toList (vc100_0 l e t x).2.1 == ByteArray.toList e then decide ((vc100_0 l e t x).1 ≤ t) else false) = true → ((0 ≤ (↑x.1 : Int) ∧ (↑x.1 : Int) < (↑(List.length l) : Int)) ∧ (0 ≤ (↑x.1 : Int) ∧ (↑x.1 : Int) < (↑(List.length l) : Int)) ∧ I64 (x.2 + (vc100_0 l e t x).2.2)) ∧ ((-9223372036854775808) ≤ (↑x.1 : Int) + 1 ∧ (↑x.1 : Int) + (1 : Int) ≤ 9223372036854775807) ∧ ∃ (y : Nat × Int), (e = e ∧ t = t ∧ x.2 + (vc100_0 l e t x).2.2 = y.2 ∧ (↑x.1 : Int) + 1 = (↑y.1 : Int) ∧ l = l) ∧ (y.1 ≤ List.length l ∧ (-(80000000000000 * (↑y.1 : Int)) ≤ y.2 ∧ y.2 ≤ 80000000000000 * (↑y.1 : Int)) ∧ sumAt l e t = sumGo e t (List.drop y.1 l) y.2) ∧ List.length l - y.1 < List.length l - x.1) ∧ ((bif ByteArray.toList (vc100_0 l e t x).2.1 == ByteArray.toList e then decide ((vc100_0 l e t x).1 ≤ t) else false) = false → ((-9223372036854775808) ≤ (↑x.1 : Int) + 1 ∧ (↑x.1 : Int) + (1 : Int) ≤ 9223372036854775807) ∧ ∃ (y : Nat × Int), (e = e ∧ t = t ∧ x.2 = y.2 ∧ (↑x.1 : Int) + 1 = (↑y.1 : Int) ∧ l = l) ∧ (y.1 ≤ List.length l ∧ (-(80000000000000 * (↑y.1 : Int)) ≤ y.2 ∧ y.2 ≤ 80000000000000 * (↑y.1 : Int)) ∧ sumAt l e t = sumGo e t (List.drop y.1 l) y.2) ∧ List.length l - y.1 < List.length l - x.1)) ∧ (decide ((↑x.1 : Int) < (↑(List.length l) : Int)) = false → x.2 = sumAt l e t)) := by
 intros
 kernel_rfl
theorem wp100 (l : List Arr) (e : ByteArray) (t : Int) : wpF Tryz.prog G88 (ann0 (annSumR l e t)) Tryz.f100 (cSumA 130) (l, e, t, ()) := by
 refine (vc100 l e t).mpr ?_
 delta vc100_0
 delta I64
 intro h1 h2
 refine ⟨((0 : Nat), (0 : Int)), ⟨rfl, rfl, rfl, rfl, rfl⟩, ⟨Nat.zero_le _, ⟨by decide, by decide⟩, rfl⟩, fun p hp => ?_⟩
 obtain ⟨k, n⟩ := p
 obtain ⟨i1, i2, i3⟩ := hp
 replace i1 : k ≤ l.length := i1
 replace i2 : -(80000000000000 * (k : Int)) ≤ n ∧ n ≤ 80000000000000 * k := i2
 replace i3 : sumAt l e t = sumGo e t (l.drop k) n := i3
 refine ⟨fun h => ?_, fun h => ?_⟩
 ·have hlt : k < l.length := by
   have h : (k : Int) < l.length := of_decide_eq_true h
   omega
  have hd := sum_drop (e := e) (t := t) (n := n) hlt
  have hb := h2 _ (getD_mem (d := dA) hlt)
  have kk : 0 ≤ (k : Int) ∧ (k : Int) < l.length := by omega
  rw [hd] at i3
  refine ⟨⟨kk, kk, fun _ => kk, fun _ => kk⟩, fun q => ?_, fun q => ?_⟩
  ·have q : okAt e t (l.getD k dA) = true := q
   rw [q] at i3
   have b1 : -9223372036854775808 ≤ n + (l.getD k dA).2.2 ∧ n + (l.getD k dA).2.2 ≤ 9223372036854775807 := by omega
   have b2 : -(80000000000000 * ((k + 1 : Nat) : Int)) ≤ n + (l.getD k dA).2.2 ∧ n + (l.getD k dA).2.2 ≤ 80000000000000 * ((k + 1 : Nat) : Int) := by omega
   exact ⟨⟨kk, kk, b1⟩, by show -9223372036854775808 ≤ (k : Int) + 1 ∧ (k : Int) + 1 ≤ 9223372036854775807; omega, (k + 1, n + (l.getD k dA).2.2), ⟨rfl, rfl, rfl, by simp, rfl⟩, ⟨hlt, b2, i3⟩, by show l.length - (k + 1) < l.length - k; omega⟩
  ·have q : okAt e t (l.getD k dA) = false := q
   rw [q] at i3
   have b2 : -(80000000000000 * ((k + 1 : Nat) : Int)) ≤ n ∧ n ≤ 80000000000000 * ((k + 1 : Nat) : Int) := by omega
   exact ⟨by show -9223372036854775808 ≤ (k : Int) + 1 ∧ (k : Int) + 1 ≤ 9223372036854775807; omega, (k + 1, n), ⟨rfl, rfl, rfl, by simp, rfl⟩, ⟨hlt, b2, i3⟩, by show l.length - (k + 1) < l.length - k; omega⟩
 ·have hge : ¬ k < l.length := by
   have h : ¬ (k : Int) < l.length := of_decide_eq_false h
   omega
  rw [i3, List.drop_of_length_le (by omega)]
  rfl
theorem ok100 [Sx.Dr] : Ok Tryz.prog 100 (cSumA 130) := ok_of_wp mixed g88 (by kernel_rfl) (by kernel_rfl) (fun xx => ann0 (annSumR xx.1 xx.2.1 xx.2.2.1)) fun xx => wp100 xx.1 xx.2.1 xx.2.2.1
abbrev G89 : Gam := (100, (cSumA 130)) :: G88
theorem g89 [Sx.Dr] : GamOk Tryz.prog G89 := .cons ok100 g88
set_option maxHeartbeats 20000000
def okO (l : List Arr) (e : ByteArray) (lim t : Int) : Bool := decide (max (sumAt l e t) (0 - sumAt l e t) < lim)
def openGo (l : List Arr) (e : ByteArray) (lim : Int) : Nat → Int → Option Int
 | 0, _ => none
 | n + 1, t => bif okO l e lim t then some t else openGo l e lim n (t + 1)
def openS (l : List Arr) (e : ByteArray) (t lim w : Int) : Option Int := openGo l e lim (w + 1).toNat t
theorem sumGo_bd {e : ByteArray} {t : Int} : ∀ {l : List Arr} {n : Int}, arrB l → n - 80000000000000 * l.length ≤ sumGo e t l n ∧ sumGo e t l n ≤ n + 80000000000000 * l.length
 | [], n, _ => by simp [sumGo]
 | a :: r, n, h => by
  have ha := h a (by simp)
  have ih := sumGo_bd (e := e) (t := t) (l := r) (n := bif okAt e t a then n + a.2.2 else n) fun x hx => h x (by simp [hx])
  simp only [sumGo, List.length_cons]
  cases hq : okAt e t a
  ·rw [hq] at ih; simp only [cond_false] at ih ⊢; omega
  ·rw [hq] at ih; simp only [cond_true] at ih ⊢; omega
theorem sumAt_bd {l : List Arr} {e : ByteArray} {t : Int} (h : arrB l) (hl : l.length ≤ 100000) : -9223372036854775808 ≤ 0 - sumAt l e t ∧ 0 - sumAt l e t ≤ 9223372036854775807 := by
 have := sumGo_bd (e := e) (t := t) (l := l) (n := 0) h
 unfold sumAt; omega
theorem open_step (l : List Arr) (e : ByteArray) (lim t : Int) {n : Nat} (h : 0 < n) : openGo l e lim n t = bif okO l e lim t then some t else openGo l e lim (n - 1) (t + 1) := by
 cases n with
 | zero => omega
 | succ m => rfl
def cOpens : Con := { args := [.val false (.list 107 sArr), aS, aI, aI, aI], ress := [I, Bo], owns := [], pre := fun (l, _, t, _, w, _) => [l.length ≤ 100000, arrB l, -1000000000 ≤ t ∧ t ≤ 2000000000, 0 ≤ w ∧ w ≤ 100000], spec := fun (l, e, t, lim, w, _) => ((openS l e t lim w).getD 0, (openS l e t lim w).isSome, ()) }
abbrev annOp (l : List Arr) (e : ByteArray) (t lim w : Int) : Ann := { X := Nat, σ := fun k => ⟨1, [(0, .one (.sl 0)), (1, .one (.str e)), (2, .one (.int .i64 t)), (3, .one (.int .i64 lim)), (12, .one (.int .i64 0)), (13, .one (.bool false)), (17, .one (.int .i64 (w + 1))), (18, .one (.int .i64 k))], [(0, .imm 107 sArr l)]⟩, inv := fun k => (k : Int) ≤ w + 1 ∧ openS l e t lim w = openGo l e lim ((w + 1).toNat - k) (t + k), mu := fun k => (w + 1).toNat - k }
theorem vc112 : ∀ (l : List Arr) (e : ByteArray) (t lim w : Int), wpF Tryz.prog G89 (ann0 (annOp l e t lim w)) Tryz.f112 cOpens (l, e, t, lim, w, ()) = (List.length l ≤ 100000 → arrB l → (-1000000000) ≤ t ∧ t ≤ 2000000000 → 0 ≤ w ∧ w ≤ 100000 → ((-9223372036854775808) ≤ w + 1 ∧ w + (1 : Int) ≤ 9223372036854775807) ∧ ∃ (x : Nat), (e = e ∧ t = t ∧ lim = lim ∧ (0 : Int) = 0 ∧ false = false ∧ w + 1 = w + 1 ∧ 0 = (↑x : Int) ∧ l = l) ∧ ((↑x : Int) ≤ w + 1 ∧ openS l e t lim w = openGo l e lim (Int.toNat (w + 1) - x) (t + (↑x : Int))) ∧ ∀ (x : Nat), (↑x : Int) ≤ w + 1 ∧ openS l e t lim w = openGo l e lim (Int.toNat (w + 1) - x) (t + (↑x : Int)) → (decide ((↑x : Int) < w + 1) = true → ((I64 (t + (↑x : Int))) ∧ List.length l ≤ 100000 ∧ arrB l) ∧ ((-9223372036854775808 : Int) ≤ 0 - sumAt l e (t + (↑x : Int)) ∧ 0 - sumAt l e (t + (↑x : Int)) ≤ 9223372036854775807) ∧ (decide (max (sumAt l e (t + (↑x : Int))) (0 - sumAt l e (t + (↑x : Int))) < lim) = true → (I64 (t + (↑x : Int))) ∧ t + (↑x : Int) = Option.getD (openS l e t lim w) 0 ∧ true = Option.isSome (openS l e t lim w)) ∧ (decide (max (sumAt l e (t + (↑x : Int))) (0 - sumAt l e (t + (↑x : Int))) < lim) = false → ((-9223372036854775808) ≤ (↑x : Int) + 1 ∧ (↑x : Int) + (1 : Int) ≤ 9223372036854775807) ∧ ∃ (y : Nat), (e = e ∧ t = t ∧ lim = lim ∧ (0 : Int) = 0 ∧ false = false ∧ w + 1 = w + 1 ∧ (↑x : Int) + 1 = (↑y : Int) ∧ l = l) ∧ ((↑y : Int) ≤ w + 1 ∧ openS l e t lim w = openGo l e lim (Int.toNat (w + 1) - y) (t + (↑y : Int))) ∧ Int.toNat (w + 1) - y < Int.toNat (w + 1) - x)) ∧ (decide ((↑x : Int) < w + 1) = false → 0 = Option.getD (openS l e t lim w) 0 ∧ false = Option.isSome (openS l e t lim w))) := by
 intros
 kernel_rfl
theorem wp112 (l : List Arr) (e : ByteArray) (t lim w : Int) : wpF Tryz.prog G89 (ann0 (annOp l e t lim w)) Tryz.f112 cOpens (l, e, t, lim, w, ()) := by
 refine (vc112 l e t lim w).mpr ?_
 delta I64
 intro h1 h2 h3 h4
 refine ⟨by omega, (0 : Nat), ⟨rfl, rfl, rfl, rfl, rfl, rfl, rfl, rfl⟩, ⟨by show (0 : Int) ≤ w + 1; omega, by unfold openS; rw [Nat.sub_zero]; congr 1; show t = t + ((0 : Nat) : Int); omega⟩, fun (k : Nat) hk => ⟨fun q => ?_, fun q => ?_⟩⟩
 ·have q := of_decide_eq_true q
  have st := open_step l e lim (t + k) (n := (w + 1).toNat - k) (by omega)
  have hb := sumAt_bd (e := e) (t := t + k) h2 h1
  refine ⟨⟨by omega, h1, h2⟩, hb, fun c => ?_, fun c => ?_⟩
  ·have c : okO l e lim (t + k) = true := c
   rw [c] at st
   rw [hk.2, st]
   exact ⟨by omega, rfl, rfl⟩
  ·have c : okO l e lim (t + k) = false := c
   rw [c] at st
   refine ⟨by omega, (k + 1 : Nat), ⟨rfl, rfl, rfl, rfl, rfl, rfl, by simp, rfl⟩, ⟨by omega, ?_⟩, by omega⟩
   rw [hk.2, st]
   show openGo l e lim ((w + 1).toNat - k - 1) (t + k + 1) = _
   rw [show (w + 1).toNat - k - 1 = (w + 1).toNat - (k + 1) by omega, show t + (k : Int) + 1 = t + ((k + 1 : Nat) : Int) by omega]
 ·have q := of_decide_eq_false q
  rw [hk.2, show (w + 1).toNat - k = 0 by omega]
  exact ⟨rfl, rfl⟩
theorem ok112 [Sx.Dr] : Ok Tryz.prog 112 cOpens := ok_of_wp mixed g89 (by kernel_rfl) (by kernel_rfl) (fun xx => ann0 (annOp xx.1 xx.2.1 xx.2.2.1 xx.2.2.2.1 xx.2.2.2.2.1)) fun xx => wp112 xx.1 xx.2.1 xx.2.2.1 xx.2.2.2.1 xx.2.2.2.2.1
abbrev G90 : Gam := (112, cOpens) :: G89
theorem g90 [Sx.Dr] : GamOk Tryz.prog G90 := .cons ok112 g89
set_option maxHeartbeats 20000000
def opnE (l : List Arr) (e : ByteArray) (t lim w : Int) : Int := firstS [arrE l, endS e, withinS t 0 999999999, thrS lim, withinS w 0 1000]
def opnF (l : List Arr) (e : ByteArray) (t lim w : Int) : Int := if opnE l e t lim w = 0 then (openS l e t lim w).getD 0 else 0
def opnEE (l : List Arr) (e : ByteArray) (t lim w : Int) : Int := if opnE l e t lim w = 0 then (bif (openS l e t lim w).isSome then 0 else 7) else opnE l e t lim w
def cOpening : Con := { args := [.val false (.list 107 sArr), aS, aI, aI, aI], ress := [I, I], owns := [], pre := fun (l, _) => [l.length ≤ 1000000], spec := fun (l, e, t, lim, w, _) => (opnF l e t lim w, opnEE l e t lim w, ()) }
theorem vc41 : ∀ (l : List Arr) (e : ByteArray) (t lim w : Int), wpF Tryz.prog G90 (na ()) Tryz.f41 cOpening (l, e, t, lim, w, ()) = (List.length l ≤ 1000000 → (List.length l ≤ 1000000 ∧ 5 ≤ 1000000) ∧ ((firstS [arrE l, endS e, withinS t 0 999999999, thrS lim, withinS w 0 1000] != 0) = true → 0 = opnF l e t lim w ∧ firstS [arrE l, endS e, withinS t 0 999999999, thrS lim, withinS w 0 1000] = opnEE l e t lim w) ∧ ((firstS [arrE l, endS e, withinS t 0 999999999, thrS lim, withinS w 0 1000] != 0) = false → (List.length l ≤ 100000 ∧ arrB l ∧ ((-1000000000) ≤ t ∧ t ≤ 2000000000) ∧ 0 ≤ w ∧ w ≤ 100000) ∧ Option.getD (openS l e t lim w) 0 = opnF l e t lim w ∧ (bif !Option.isSome (openS l e t lim w) then 7 else 0) = opnEE l e t lim w)) := by
 intros
 kernel_rfl
theorem wp41 (l : List Arr) (e : ByteArray) (t lim w : Int) : wpF Tryz.prog G90 (na ()) Tryz.f41 cOpening (l, e, t, lim, w, ()) := by
 refine (vc41 l e t lim w).mpr ?_
 intro h1
 refine ⟨⟨h1, by omega⟩, fun h => ?_, fun h => ?_⟩
 ·have h : ¬ opnE l e t lim w = 0 := bne_iff_ne.1 h
  unfold opnF opnEE; rw [if_neg h, if_neg h]; exact ⟨rfl, rfl⟩
 ·have h : opnE l e t lim w = 0 := bne_eq_false_iff_eq.1 h
  have hz := firstS_zero (show firstS [arrE l, endS e, withinS t 0 999999999, thrS lim, withinS w 0 1000] = 0 from h)
  simp only [List.mem_cons, List.not_mem_nil, or_false, forall_eq_or_imp, forall_eq] at hz
  obtain ⟨a1, a2, a3, a4, a5⟩ := hz
  have b3 := within_zero.1 a3
  have b5 := within_zero.1 a5
  have bA := arrE_bd a1
  unfold opnF opnEE; rw [if_pos h, if_pos h]
  refine ⟨⟨by omega, bA.1, by omega, by omega⟩, rfl, ?_⟩
  cases (openS l e t lim w).isSome <;> rfl
theorem ok41 [Sx.Dr] : Ok Tryz.prog 41 cOpening := ok_of_wp mixed g90 (by kernel_rfl) (by kernel_rfl) na fun xx => wp41 xx.1 xx.2.1 xx.2.2.1 xx.2.2.2.1 xx.2.2.2.2.1
abbrev G91 : Gam := (41, cOpening) :: G90
theorem g91 [Sx.Dr] : GamOk Tryz.prog G91 := .cons ok41 g90
def cOpensR : Con := { args := [.val false (.list 130 sArr), aS, aI, aI, aI], ress := [I, I], owns := [], pre := fun (l, _, t, _, w, _) => [l.length ≤ 100000, arrB l, -1000000000 ≤ t ∧ t ≤ 2000000000, 0 ≤ w ∧ w ≤ 100000], spec := fun (l, e, t, lim, w, _) => ((openS l e t lim w).getD 0, bif (openS l e t lim w).isSome then 0 else 7, ()) }
abbrev annOpR (l : List Arr) (e : ByteArray) (t lim w : Int) : Ann := { X := Nat, σ := fun k => ⟨1, [(0, .one (.sl 0)), (1, .one (.str e)), (2, .one (.int .i64 t)), (3, .one (.int .i64 lim)), (4, .one (.int .i64 w)), (12, .one (.int .i64 (t + k)))], [(0, .imm 130 sArr l)]⟩, inv := fun k => (k : Int) ≤ w + 1 ∧ openS l e t lim w = openGo l e lim ((w + 1).toNat - k) (t + k), mu := fun k => (w + 1).toNat - k }
theorem vc47 : ∀ (l : List Arr) (e : ByteArray) (t lim w : Int), wpF Tryz.prog G91 (ann0 (annOpR l e t lim w)) Tryz.f47 cOpensR (l, e, t, lim, w, ()) = (List.length l ≤ (100000 : Nat) → arrB l → (-1000000000 : Int) ≤ t ∧ t ≤ (2000000000 : Int) → (0 : Int) ≤ w ∧ w ≤ (100000 : Int) → ∃ (x : Nat), (e = e ∧ t = t ∧ lim = lim ∧ w = w ∧ t = t + (↑x : Int) ∧ l = l) ∧ ((↑x : Int) ≤ w + (1 : Int) ∧ openS l e t lim w = openGo l e lim (Int.toNat (w + (1 : Int)) - x) (t + (↑x : Int))) ∧ ∀ (x : Nat), (↑x : Int) ≤ w + (1 : Int) ∧ openS l e t lim w = openGo l e lim (Int.toNat (w + (1 : Int)) - x) (t + (↑x : Int)) → ((-9223372036854775808 : Int) ≤ t + w ∧ t + w ≤ (9223372036854775807 : Int)) ∧ (decide (t + (↑x : Int) ≤ t + w) = true → (List.length l ≤ (100000 : Nat) ∧ arrB l) ∧ ((-9223372036854775808 : Int) ≤ (0 : Int) - sumAt l e (t + (↑x : Int)) ∧ (0 : Int) - sumAt l e (t + (↑x : Int)) ≤ (9223372036854775807 : Int)) ∧ (decide (max (sumAt l e (t + (↑x : Int))) ((0 : Int) - sumAt l e (t + (↑x : Int))) < lim) = true → t + (↑x : Int) = Option.getD (openS l e t lim w) (0 : Int) ∧ (0 : Int) = bif Option.isSome (openS l e t lim w) then (0 : Int) else (7 : Int)) ∧ (decide (max (sumAt l e (t + (↑x : Int))) ((0 : Int) - sumAt l e (t + (↑x : Int))) < lim) = false → ((-9223372036854775808 : Int) ≤ t + (↑x : Int) + (1 : Int) ∧ t + (↑x : Int) + (1 : Int) ≤ (9223372036854775807 : Int)) ∧ ∃ (y : Nat), (e = e ∧ t = t ∧ lim = lim ∧ w = w ∧ t + (↑x : Int) + (1 : Int) = t + (↑y : Int) ∧ l = l) ∧ ((↑y : Int) ≤ w + (1 : Int) ∧ openS l e t lim w = openGo l e lim (Int.toNat (w + (1 : Int)) - y) (t + (↑y : Int))) ∧ Int.toNat (w + (1 : Int)) - y < Int.toNat (w + (1 : Int)) - x)) ∧ (decide (t + (↑x : Int) ≤ t + w) = false → (0 : Int) = Option.getD (openS l e t lim w) (0 : Int) ∧ (7 : Int) = bif Option.isSome (openS l e t lim w) then (0 : Int) else (7 : Int))) := by
 intros
 kernel_rfl
theorem wp47 (l : List Arr) (e : ByteArray) (t lim w : Int) : wpF Tryz.prog G91 (ann0 (annOpR l e t lim w)) Tryz.f47 cOpensR (l, e, t, lim, w, ()) := by
 refine (vc47 l e t lim w).mpr ?_
 intro h1 h2 h3 h4
 refine ⟨(0 : Nat), ⟨rfl, rfl, rfl, rfl, by omega, rfl⟩, ⟨by show (0 : Int) ≤ w + 1; omega, by unfold openS; rw [Nat.sub_zero]; congr 1; show t = t + ((0 : Nat) : Int); omega⟩, fun (k : Nat) hk => ?_⟩
 refine ⟨by omega, fun q => ?_, fun q => ?_⟩
 ·have q := of_decide_eq_true q
  have st := open_step l e lim (t + k) (n := (w + 1).toNat - k) (by omega)
  have hb := sumAt_bd (e := e) (t := t + k) h2 h1
  refine ⟨⟨h1, h2⟩, hb, fun c => ?_, fun c => ?_⟩
  ·have c : okO l e lim (t + k) = true := c
   rw [c] at st
   rw [hk.2, st]
   exact ⟨rfl, rfl⟩
  ·have c : okO l e lim (t + k) = false := c
   rw [c] at st
   refine ⟨by omega, (k + 1 : Nat), ⟨rfl, rfl, rfl, rfl, by omega, rfl⟩, ⟨by omega, ?_⟩, by omega⟩
   rw [hk.2, st]
   show openGo l e lim ((w + 1).toNat - k - 1) (t + k + 1) = _
   rw [show (w + 1).toNat - k - 1 = (w + 1).toNat - (k + 1) by omega, show t + (k : Int) + 1 = t + ((k + 1 : Nat) : Int) by omega]
 ·have q := of_decide_eq_false q
  rw [hk.2, show (w + 1).toNat - k = 0 by omega]
  exact ⟨rfl, rfl⟩
theorem ok47 [Sx.Dr] : Ok Tryz.prog 47 cOpensR := ok_of_wp mixed g91 (by kernel_rfl) (by kernel_rfl) (fun xx => ann0 (annOpR xx.1 xx.2.1 xx.2.2.1 xx.2.2.2.1 xx.2.2.2.2.1)) fun xx => wp47 xx.1 xx.2.1 xx.2.2.1 xx.2.2.2.1 xx.2.2.2.2.1
abbrev G92 : Gam := (47, cOpensR) :: G91
theorem g92 [Sx.Dr] : GamOk Tryz.prog G92 := .cons ok47 g91
set_option maxHeartbeats 20000000
abbrev Pln : Type := (Int × Int) × Int × Int × Int
abbrev sPl : Sch := .prod sPt (.prod sI (.prod sI sI))
abbrev aPl : AK := .val true sPl
def plnS (p : Pln) : Int := firstS [thrS p.1.1, thrS p.1.2, withinS p.2.1 0 100000, thrS p.2.2.1, withinS p.2.2.2 0 1000]
def cPln : Con := { args := [aPl], ress := [I], owns := [], pre := fun _ => [], spec := fun (p, _) => (plnS p, ()) }
theorem vc113 : ∀ (p : Pln), wpF Tryz.prog G92 (na ()) Tryz.f113 cPln (p, ()) = (5 ≤ 1000000 ∧ firstS [thrS p.1.1, thrS p.1.2, withinS p.2.1 0 100000, thrS p.2.2.1, withinS p.2.2.2 0 1000] = plnS p) := by
 intros
 kernel_rfl
theorem wp113 (p : Pln) : wpF Tryz.prog G92 (na ()) Tryz.f113 cPln (p, ()) := by
 refine (vc113 p).mpr ?_
 exact ⟨by omega, rfl⟩
theorem ok113 [Sx.Dr] : Ok Tryz.prog 113 cPln := ok_of_wp mixed g92 (by kernel_rfl) (by kernel_rfl) na fun xx => wp113 xx.1
abbrev G93 : Gam := (113, cPln) :: G92
theorem g93 [Sx.Dr] : GamOk Tryz.prog G93 := .cons ok113 g92
theorem vc50 : ∀ (p : Pln), wpF Tryz.prog G93 (na ()) Tryz.f50 cPln (p, ()) = (5 ≤ 1000000 ∧ firstS [thrS p.1.1, thrS p.1.2, withinS p.2.1 0 100000, thrS p.2.2.1, withinS p.2.2.2 0 1000] = plnS p) := by
 intros
 kernel_rfl
theorem wp50 (p : Pln) : wpF Tryz.prog G93 (na ()) Tryz.f50 cPln (p, ()) := by
 refine (vc50 p).mpr ?_
 exact ⟨by omega, rfl⟩
theorem ok50 [Sx.Dr] : Ok Tryz.prog 50 cPln := ok_of_wp mixed g93 (by kernel_rfl) (by kernel_rfl) na fun xx => wp50 xx.1
abbrev G94 : Gam := (50, cPln) :: G93
theorem g94 [Sx.Dr] : GamOk Tryz.prog G94 := .cons ok50 g93
set_option maxHeartbeats 20000000
abbrev G300 : Gam := []
theorem g300 [Sx.Dr] : GamOk Tryz.prog G300 := .nil _
def shortS (c : Cab) : Bool := decide (c.1.length ≤ 7) && decide (c.2.1.length ≤ 8)
def cShort : Con := { args := [aCR], ress := [Bo], owns := [], pre := fun _ => [], spec := fun (c, _) => (shortS c, ()) }
theorem vc17 : ∀ (c : Cab), wpF Tryz.prog G300 (na ()) Tryz.f17 cShort (c, ()) = ((bif decide ((↑(List.length c.1) : Int) ≤ 7) then decide ((↑(List.length c.2.1) : Int) ≤ 8) else false) = shortS c) := by
 intros
 kernel_rfl
theorem wp17 (c : Cab) : wpF Tryz.prog G300 (na ()) Tryz.f17 cShort (c, ()) := by
 refine (vc17 c).mpr ?_
 unfold shortS
 rw [show decide (c.1.length ≤ 7) = decide ((c.1.length : Int) ≤ 7) from decide_eq_decide.2 (by omega), show decide (c.2.1.length ≤ 8) = decide ((c.2.1.length : Int) ≤ 8) from decide_eq_decide.2 (by omega)]
 cases decide ((c.1.length : Int) ≤ 7) <;> rfl
theorem ok17 [Sx.Dr] : Ok Tryz.prog 17 cShort := ok_of_wp mixed g300 (by kernel_rfl) (by kernel_rfl) na fun xx => wp17 xx.1
abbrev G301 : Gam := (17, cShort) :: G300
theorem g301 [Sx.Dr] : GamOk Tryz.prog G301 := .cons ok17 g300
def shortA (l : List Arr) : Bool := (l.all fun a => decide (a.2.1.size ≤ 20)) && (decide (l.length ≤ 40) || decide (l.length = 2049))
def cShortA : Con := { args := [.val false (.list 130 sArr)], ress := [Bo], owns := [], pre := fun (l, _) => [l.length ≤ 9223372036854775807], spec := fun (l, _) => (shortA l, ()) }
abbrev annShA (l : List Arr) : Ann := { X := Nat, σ := fun k => ⟨1, [(0, .one (.sl 0)), (3, .one (.int .i64 k))], [(0, .imm 130 sArr l)]⟩, inv := fun k => k ≤ l.length ∧ (l.all fun a => decide (a.2.1.size ≤ 20)) = ((l.drop k).all fun a => decide (a.2.1.size ≤ 20)), mu := fun k => l.length - k }
theorem vc40 : ∀ (l : List Arr), wpF Tryz.prog G301 (ann0 (annShA l)) Tryz.f40 cShortA (l, ()) = (List.length l ≤ 9223372036854775807 → ∃ (x : Nat), (0 = (↑x : Int) ∧ l = l) ∧ (x ≤ List.length l ∧ (List.all l fun (a : Arr) => decide (ByteArray.size a.2.1 ≤ 20)) = List.all (List.drop x l) fun (a : Arr) => decide (ByteArray.size a.2.1 ≤ 20)) ∧ ∀ (x : Nat), (x ≤ List.length l ∧ (List.all l fun (a : Arr) => decide (ByteArray.size a.2.1 ≤ 20)) = List.all (List.drop x l) fun (a : Arr) => decide (ByteArray.size a.2.1 ≤ 20)) → (decide ((↑x : Int) < (↑(List.length l) : Int)) = true → ((0 ≤ (↑x : Int) ∧ (↑x : Int) < (↑(List.length l) : Int)) ∧ 0 ≤ (↑x : Int) ∧ (↑x : Int) < (↑(List.length l) : Int)) ∧ (decide (20 < (↑(ByteArray.size (List.getD l x (0, ByteArray.mk (Array.mk []), 0)).2.1) : Int)) = true → false = shortA l) ∧ (decide (20 < (↑(ByteArray.size (List.getD l x (0, ByteArray.mk (Array.mk []), 0)).2.1) : Int)) = false → ((-9223372036854775808) ≤ (↑x : Int) + 1 ∧ (↑x : Int) + (1 : Int) ≤ 9223372036854775807) ∧ ∃ (y : Nat), ((↑x : Int) + 1 = (↑y : Int) ∧ l = l) ∧ (y ≤ List.length l ∧ (List.all l fun (a : Arr) => decide (ByteArray.size a.2.1 ≤ 20)) = List.all (List.drop y l) fun (a : Arr) => decide (ByteArray.size a.2.1 ≤ 20)) ∧ List.length l - y < List.length l - x)) ∧ (decide ((↑x : Int) < (↑(List.length l) : Int)) = false → (bif decide ((↑(List.length l) : Int) ≤ 40) then true else (↑(List.length l) : Int) == 2049) = shortA l)) := by
 intros
 kernel_rfl
theorem wp40 (l : List Arr) : wpF Tryz.prog G301 (ann0 (annShA l)) Tryz.f40 cShortA (l, ()) := by
 refine (vc40 l).mpr ?_
 intro hb
 refine ⟨(0 : Nat), ⟨rfl, rfl⟩, ⟨Nat.zero_le _, rfl⟩, fun (k : Nat) hk => ⟨fun h => ?_, fun h => ?_⟩⟩
 ·have hlt : k < l.length := by simpa using h
  have hd : ((l.drop k).all fun a => decide (a.2.1.size ≤ 20)) = (decide ((l.getD k (0, ⟨⟨[]⟩⟩, 0)).2.1.size ≤ 20) && (l.drop (k + 1)).all fun a => decide (a.2.1.size ≤ 20)) := by
   rw [drop_cons (d := (0, ⟨⟨[]⟩⟩, 0)) hlt, List.all_cons]
  refine ⟨⟨by omega, by omega⟩, fun h1 => ?_, fun h1 => ⟨by omega, (k + 1 : Nat), ⟨by simp, rfl⟩, ⟨by omega, ?_⟩, by omega⟩⟩
  ·have h1 := of_decide_eq_true h1
   unfold shortA
   rw [hk.2, hd, decide_eq_false (by omega)]
   rfl
  ·have h1 := of_decide_eq_false h1
   rw [hk.2, hd, decide_eq_true (by omega), Bool.true_and]
 ·have hge : ¬ k < l.length := by simpa using h
  unfold shortA
  rw [hk.2, List.drop_of_length_le (by omega), List.all_nil, Bool.true_and]
  rw [show decide (l.length ≤ 40) = decide ((l.length : Int) ≤ 40) from decide_eq_decide.2 (by omega), show decide (l.length = 2049) = ((l.length : Int) == 2049) by rw [Bool.eq_iff_iff, decide_eq_true_iff, beq_iff_eq]; omega]
  cases decide ((l.length : Int) ≤ 40) <;> rfl
theorem ok40 [Sx.Dr] : Ok Tryz.prog 40 cShortA := ok_of_wp mixed g301 (by kernel_rfl) (by kernel_rfl) (fun xx => ann0 (annShA xx.1)) fun xx => wp40 xx.1
abbrev G302 : Gam := (40, cShortA) :: G301
theorem g302 [Sx.Dr] : GamOk Tryz.prog G302 := .cons ok40 g301
abbrev annConv (T U : TypeId) (s : Sch) (l : List s.T) : Ann := { X := Nat, σ := fun k => ⟨2, [(3, .one (.sl 1)), (6, .one (.sl 0)), (7, .one (.int .i64 l.length)), (8, .one (.int .i64 k))], [(0, .imm T s l), (1, .own U s (l.take k))]⟩, inv := fun k => k ≤ l.length, mu := fun k => l.length - k }
def cConv (T U : TypeId) (s : Sch) : Con := { args := [.val false (.list T s)], ress := [(false, .list U s)], owns := [], pre := fun (l, _) => [l.length ≤ 1000000], spec := fun (l, _) => (l, ()) }
def vc32_0 (l : List Stp) (x : Nat) := (List.getD l x ((0 : Int), (0 : Int), false, (0 : Int), (0 : Int)))
theorem vc32 : ∀ (l : List Stp), wpF Tryz.prog G302 (ann0 (annConv (163 : TypeId) (186 : TypeId) sStp l)) Tryz.f32 (cConv (163 : TypeId) (186 : TypeId) sStp) (l, ()) = (List.length l ≤ 1000000 → ∃ (x : Nat), ((↑(List.length l) : Int) = (↑(List.length l) : Int) ∧ 0 = (↑x : Int) ∧ l = l ∧ List.length (List.take x l) = 0) ∧ x ≤ List.length l ∧ ∀ (x : Nat), x ≤ List.length l → (decide ((↑x : Int) < (↑(List.length l) : Int)) = true → ((0 ≤ (↑x : Int) ∧ (↑x : Int) < (↑(List.length l) : Int)) ∧ 0 ≤ (↑x : Int) ∧ (↑x : Int) < (↑(List.length l) : Int)) ∧ (List.length (List.take x l) + 1) * 40 ≤ 140737488355328 ∧ ((-9223372036854775808) ≤ (↑x : Int) + 1 ∧ (↑x : Int) + (1 : Int) ≤ 9223372036854775807) ∧ ∃ (y : Nat), ((↑(List.length l) : Int) = (↑(List.length l) : Int) ∧ (↑x : Int) + 1 = (↑y : Int) ∧ l = l ∧ List.take x l ++ [((vc32_0 l x).1, (vc32_0 l x).2.1, (vc32_0 l x).2.2.1, (vc32_0 l x).2.2.2.1, (vc32_0 l x).2.2.2.2)] = List.take y l) ∧ y ≤ List.length l ∧ List.length l - y < List.length l - x) ∧ (decide ((↑x : Int) < (↑(List.length l) : Int)) = false → List.take x l = l)) := by
 intros
 kernel_rfl
theorem wp32 (l : List Stp) : wpF Tryz.prog G302 (ann0 (annConv 163 186 sStp l)) Tryz.f32 (cConv 163 186 sStp) (l, ()) := by
 refine (vc32 l).mpr ?_
 delta vc32_0
 intro hb
 refine ⟨(0 : Nat), ⟨rfl, rfl, rfl, by simp⟩, Nat.zero_le _, fun (k : Nat) hk => ⟨fun h => ?_, fun h => ?_⟩⟩
 ·have hlt : k < l.length := by simpa using h
  have hl : (l.take k).length ≤ l.length := by simp; omega
  exact ⟨⟨by omega, by omega⟩, by omega, by omega, (k + 1 : Nat), ⟨rfl, by simp, rfl, take_snoc (d := (0, 0, false, 0, 0)) hlt⟩, by omega, by omega⟩
 ·have hge : ¬ k < l.length := by simpa using h
  rw [List.take_of_length_le (by omega)]
theorem ok32 [Sx.Dr] : Ok Tryz.prog 32 (cConv 163 186 sStp) := ok_of_wp mixed g302 (by kernel_rfl) (by kernel_rfl) (fun xx => ann0 (annConv 163 186 sStp xx.1)) fun xx => wp32 xx.1
abbrev G303 : Gam := (32, (cConv 163 186 sStp)) :: G302
theorem g303 [Sx.Dr] : GamOk Tryz.prog G303 := .cons ok32 g302
theorem vc34 : ∀ (l : List Arr), wpF Tryz.prog G303 (ann0 (annConv (107 : TypeId) (130 : TypeId) sArr l)) Tryz.f34 (cConv (107 : TypeId) (130 : TypeId) sArr) (l, ()) = (List.length l ≤ 1000000 → ∃ (x : Nat), ((↑(List.length l) : Int) = (↑(List.length l) : Int) ∧ 0 = (↑x : Int) ∧ l = l ∧ List.length (List.take x l) = 0) ∧ x ≤ List.length l ∧ ∀ (x : Nat), x ≤ List.length l → (decide ((↑x : Int) < (↑(List.length l) : Int)) = true → ((0 ≤ (↑x : Int) ∧ (↑x : Int) < (↑(List.length l) : Int)) ∧ 0 ≤ (↑x : Int) ∧ (↑x : Int) < (↑(List.length l) : Int)) ∧ (List.length (List.take x l) + 1) * 32 ≤ 140737488355328 ∧ ((-9223372036854775808) ≤ (↑x : Int) + 1 ∧ (↑x : Int) + (1 : Int) ≤ 9223372036854775807) ∧ ∃ (y : Nat), ((↑(List.length l) : Int) = (↑(List.length l) : Int) ∧ (↑x : Int) + 1 = (↑y : Int) ∧ l = l ∧ List.take x l ++ [((List.getD l x (0, ByteArray.mk (Array.mk []), 0)).1, (List.getD l x (0, ByteArray.mk (Array.mk []), 0)).2.1, (List.getD l x (0, ByteArray.mk (Array.mk []), 0)).2.2)] = List.take y l) ∧ y ≤ List.length l ∧ List.length l - y < List.length l - x) ∧ (decide ((↑x : Int) < (↑(List.length l) : Int)) = false → List.take x l = l)) := by
 intros
 kernel_rfl
theorem wp34 (l : List Arr) : wpF Tryz.prog G303 (ann0 (annConv 107 130 sArr l)) Tryz.f34 (cConv 107 130 sArr) (l, ()) := by
 refine (vc34 l).mpr ?_
 intro hb
 refine ⟨(0 : Nat), ⟨rfl, rfl, rfl, by simp⟩, Nat.zero_le _, fun (k : Nat) hk => ⟨fun h => ?_, fun h => ?_⟩⟩
 ·have hlt : k < l.length := by simpa using h
  have hl : (l.take k).length ≤ l.length := by simp; omega
  exact ⟨⟨by omega, by omega⟩, by omega, by omega, (k + 1 : Nat), ⟨rfl, by simp, rfl, take_snoc (d := (0, ⟨⟨[]⟩⟩, 0)) hlt⟩, by omega, by omega⟩
 ·have hge : ¬ k < l.length := by simpa using h
  rw [List.take_of_length_le (by omega)]
theorem ok34 [Sx.Dr] : Ok Tryz.prog 34 (cConv 107 130 sArr) := ok_of_wp mixed g303 (by kernel_rfl) (by kernel_rfl) (fun xx => ann0 (annConv 107 130 sArr xx.1)) fun xx => wp34 xx.1
abbrev G304 : Gam := (34, (cConv 107 130 sArr)) :: G303
theorem g304 [Sx.Dr] : GamOk Tryz.prog G304 := .cons ok34 g303
theorem vc42 : ∀ (l : List Arr), wpF Tryz.prog G304 (ann0 (annConv (130 : TypeId) (107 : TypeId) sArr l)) Tryz.f42 (cConv (130 : TypeId) (107 : TypeId) sArr) (l, ()) = (List.length l ≤ 1000000 → ∃ (x : Nat), ((↑(List.length l) : Int) = (↑(List.length l) : Int) ∧ 0 = (↑x : Int) ∧ l = l ∧ List.length (List.take x l) = 0) ∧ x ≤ List.length l ∧ ∀ (x : Nat), x ≤ List.length l → (decide ((↑x : Int) < (↑(List.length l) : Int)) = true → ((0 ≤ (↑x : Int) ∧ (↑x : Int) < (↑(List.length l) : Int)) ∧ 0 ≤ (↑x : Int) ∧ (↑x : Int) < (↑(List.length l) : Int)) ∧ (List.length (List.take x l) + 1) * 32 ≤ 140737488355328 ∧ ((-9223372036854775808) ≤ (↑x : Int) + 1 ∧ (↑x : Int) + (1 : Int) ≤ 9223372036854775807) ∧ ∃ (y : Nat), ((↑(List.length l) : Int) = (↑(List.length l) : Int) ∧ (↑x : Int) + 1 = (↑y : Int) ∧ l = l ∧ List.take x l ++ [((List.getD l x (0, ByteArray.mk (Array.mk []), 0)).1, (List.getD l x (0, ByteArray.mk (Array.mk []), 0)).2.1, (List.getD l x (0, ByteArray.mk (Array.mk []), 0)).2.2)] = List.take y l) ∧ y ≤ List.length l ∧ List.length l - y < List.length l - x) ∧ (decide ((↑x : Int) < (↑(List.length l) : Int)) = false → List.take x l = l)) := by
 intros
 kernel_rfl
theorem wp42 (l : List Arr) : wpF Tryz.prog G304 (ann0 (annConv 130 107 sArr l)) Tryz.f42 (cConv 130 107 sArr) (l, ()) := by
 refine (vc42 l).mpr ?_
 intro hb
 refine ⟨(0 : Nat), ⟨rfl, rfl, rfl, by simp⟩, Nat.zero_le _, fun (k : Nat) hk => ⟨fun h => ?_, fun h => ?_⟩⟩
 ·have hlt : k < l.length := by simpa using h
  have hl : (l.take k).length ≤ l.length := by simp; omega
  exact ⟨⟨by omega, by omega⟩, by omega, by omega, (k + 1 : Nat), ⟨rfl, by simp, rfl, take_snoc (d := (0, ⟨⟨[]⟩⟩, 0)) hlt⟩, by omega, by omega⟩
 ·have hge : ¬ k < l.length := by simpa using h
  rw [List.take_of_length_le (by omega)]
theorem ok42 [Sx.Dr] : Ok Tryz.prog 42 (cConv 130 107 sArr) := ok_of_wp mixed g304 (by kernel_rfl) (by kernel_rfl) (fun xx => ann0 (annConv 130 107 sArr xx.1)) fun xx => wp42 xx.1
abbrev G305 : Gam := (42, (cConv 130 107 sArr)) :: G304
theorem g305 [Sx.Dr] : GamOk Tryz.prog G305 := .cons ok42 g304
def cOwn : Con := { args := [aCR], ress := [(true, sCab 166)], owns := [], pre := fun (c, _) => [c.1.length ≤ 1000000, c.2.1.length ≤ 1000000], spec := fun (c, _) => (c, ()) }
abbrev zC : List SC := [.val (.slice none 0 0), .val (.slice none 0 0), .int .i64 0, .int .i64 0]
abbrev annOwn (T U A B : TypeId) (c : Cab) : Ann := { X := Nat, σ := fun k => ⟨8, [(2, .one (.ptr 3 0)), (3, .one (.ptr 6 0)), (14, .one (.sl 0)), (15, .one (.int .i64 c.1.length)), (16, .one (.int .i64 k))], [(0, .imm T sPt c.1), (3, .box B zC), (5, .own 3 sI c.2.1), (6, .box B [.sl 7, .sl 5, .int .i64 c.2.2.1, .int .i64 c.2.2.2]), (7, .own U sPt (c.1.take k))]⟩, inv := fun k => k ≤ c.1.length, mu := fun k => c.1.length - k }
theorem vc19 : ∀ (c : Cab), wpF Tryz.prog G305 (ann0 (annOwn (102 : TypeId) (166 : TypeId) (26 : TypeId) (37 : TypeId) c)) Tryz.f19 cOwn (c, ()) = (List.length c.1 ≤ 1000000 → List.length c.2.1 ≤ 1000000 → (0 + List.length c.2.1) * 8 ≤ 140737488355328 ∧ ∃ (x : Nat), ((↑(List.length c.1) : Int) = (↑(List.length c.1) : Int) ∧ 0 = (↑x : Int) ∧ c.1 = c.1 ∧ Value.slice none 0 0 = Value.slice none 0 0 ∧ Value.slice none 0 0 = Value.slice none 0 0 ∧ (0 : Int) = 0 ∧ (0 : Int) = 0 ∧ c.2.1 = c.2.1 ∧ c.2.2.1 = c.2.2.1 ∧ c.2.2.2 = c.2.2.2 ∧ List.length (List.take x c.1) = 0) ∧ x ≤ List.length c.1 ∧ ∀ (x : Nat), x ≤ List.length c.1 → (decide ((↑x : Int) < (↑(List.length c.1) : Int)) = true → ((0 ≤ (↑x : Int) ∧ (↑x : Int) < (↑(List.length c.1) : Int)) ∧ 0 ≤ (↑x : Int) ∧ (↑x : Int) < (↑(List.length c.1) : Int)) ∧ (List.length (List.take x c.1) + 1) * 16 ≤ 140737488355328 ∧ ((-9223372036854775808) ≤ (↑x : Int) + 1 ∧ (↑x : Int) + (1 : Int) ≤ 9223372036854775807) ∧ ∃ (y : Nat), ((↑(List.length c.1) : Int) = (↑(List.length c.1) : Int) ∧ (↑x : Int) + 1 = (↑y : Int) ∧ c.1 = c.1 ∧ Value.slice none 0 0 = Value.slice none 0 0 ∧ Value.slice none 0 0 = Value.slice none 0 0 ∧ (0 : Int) = 0 ∧ (0 : Int) = 0 ∧ c.2.1 = c.2.1 ∧ c.2.2.1 = c.2.2.1 ∧ c.2.2.2 = c.2.2.2 ∧ List.take x c.1 ++ [((List.getD c.1 x (0, 0)).1, (List.getD c.1 x (0, 0)).2)] = List.take y c.1) ∧ y ≤ List.length c.1 ∧ List.length c.1 - y < List.length c.1 - x) ∧ (decide ((↑x : Int) < (↑(List.length c.1) : Int)) = false → (List.take x c.1, c.2.1, c.2.2.1, c.2.2.2) = c)) := by
 intros
 kernel_rfl
theorem wp19 (c : Cab) : wpF Tryz.prog G305 (ann0 (annOwn 102 166 26 37 c)) Tryz.f19 cOwn (c, ()) := by
 refine (vc19 c).mpr ?_
 intro h1 h2
 refine ⟨by show (0 + c.2.1.length) * 8 ≤ 140737488355328; omega, (0 : Nat), ⟨rfl, rfl, rfl, rfl, rfl, rfl, rfl, rfl, rfl, rfl, by simp⟩, Nat.zero_le _, fun (k : Nat) hk => ⟨fun h => ?_, fun h => ?_⟩⟩
 ·have hlt : k < c.1.length := by simpa using h
  have hl : (c.1.take k).length ≤ c.1.length := by simp; omega
  exact ⟨⟨by omega, by omega⟩, by omega, by omega, (k + 1 : Nat), ⟨rfl, by simp, rfl, rfl, rfl, rfl, rfl, rfl, rfl, rfl, take_snoc (d := (0, 0)) hlt⟩, by omega, by omega⟩
 ·have hge : ¬ k < c.1.length := by simpa using h
  rw [List.take_of_length_le (by omega)]
theorem ok19 [Sx.Dr] : Ok Tryz.prog 19 cOwn := ok_of_wp mixed g305 (by kernel_rfl) (by kernel_rfl) (fun xx => ann0 (annOwn 102 166 26 37 xx.1)) fun xx => wp19 xx.1
abbrev G306 : Gam := (19, cOwn) :: G305
theorem g306 [Sx.Dr] : GamOk Tryz.prog G306 := .cons ok19 g305
def cTold : Con := { args := [aC], ress := [(true, sCab 102)], owns := [], pre := fun (c, _) => [c.1.length ≤ 1000000, c.2.1.length ≤ 1000000], spec := fun (c, _) => (c, ()) }
theorem vc55 : ∀ (c : Cab), wpF Tryz.prog G306 (ann0 (annOwn (166 : TypeId) (102 : TypeId) (37 : TypeId) (26 : TypeId) c)) Tryz.f55 cTold (c, ()) = (List.length c.1 ≤ 1000000 → List.length c.2.1 ≤ 1000000 → (0 + List.length c.2.1) * 8 ≤ 140737488355328 ∧ ∃ (x : Nat), ((↑(List.length c.1) : Int) = (↑(List.length c.1) : Int) ∧ 0 = (↑x : Int) ∧ c.1 = c.1 ∧ Value.slice none 0 0 = Value.slice none 0 0 ∧ Value.slice none 0 0 = Value.slice none 0 0 ∧ (0 : Int) = 0 ∧ (0 : Int) = 0 ∧ c.2.1 = c.2.1 ∧ c.2.2.1 = c.2.2.1 ∧ c.2.2.2 = c.2.2.2 ∧ List.length (List.take x c.1) = 0) ∧ x ≤ List.length c.1 ∧ ∀ (x : Nat), x ≤ List.length c.1 → (decide ((↑x : Int) < (↑(List.length c.1) : Int)) = true → ((0 ≤ (↑x : Int) ∧ (↑x : Int) < (↑(List.length c.1) : Int)) ∧ 0 ≤ (↑x : Int) ∧ (↑x : Int) < (↑(List.length c.1) : Int)) ∧ (List.length (List.take x c.1) + 1) * 16 ≤ 140737488355328 ∧ ((-9223372036854775808) ≤ (↑x : Int) + 1 ∧ (↑x : Int) + (1 : Int) ≤ 9223372036854775807) ∧ ∃ (y : Nat), ((↑(List.length c.1) : Int) = (↑(List.length c.1) : Int) ∧ (↑x : Int) + 1 = (↑y : Int) ∧ c.1 = c.1 ∧ Value.slice none 0 0 = Value.slice none 0 0 ∧ Value.slice none 0 0 = Value.slice none 0 0 ∧ (0 : Int) = 0 ∧ (0 : Int) = 0 ∧ c.2.1 = c.2.1 ∧ c.2.2.1 = c.2.2.1 ∧ c.2.2.2 = c.2.2.2 ∧ List.take x c.1 ++ [((List.getD c.1 x (0, 0)).1, (List.getD c.1 x (0, 0)).2)] = List.take y c.1) ∧ y ≤ List.length c.1 ∧ List.length c.1 - y < List.length c.1 - x) ∧ (decide ((↑x : Int) < (↑(List.length c.1) : Int)) = false → (List.take x c.1, c.2.1, c.2.2.1, c.2.2.2) = c)) := by
 intros
 kernel_rfl
theorem wp55 (c : Cab) : wpF Tryz.prog G306 (ann0 (annOwn 166 102 37 26 c)) Tryz.f55 cTold (c, ()) := by
 refine (vc55 c).mpr ?_
 intro h1 h2
 refine ⟨by show (0 + c.2.1.length) * 8 ≤ 140737488355328; omega, (0 : Nat), ⟨rfl, rfl, rfl, rfl, rfl, rfl, rfl, rfl, rfl, rfl, by simp⟩, Nat.zero_le _, fun (k : Nat) hk => ⟨fun h => ?_, fun h => ?_⟩⟩
 ·have hlt : k < c.1.length := by simpa using h
  have hl : (c.1.take k).length ≤ c.1.length := by simp; omega
  exact ⟨⟨by omega, by omega⟩, by omega, by omega, (k + 1 : Nat), ⟨rfl, by simp, rfl, rfl, rfl, rfl, rfl, rfl, rfl, rfl, take_snoc (d := (0, 0)) hlt⟩, by omega, by omega⟩
 ·have hge : ¬ k < c.1.length := by simpa using h
  rw [List.take_of_length_le (by omega)]
theorem ok55 [Sx.Dr] : Ok Tryz.prog 55 cTold := ok_of_wp mixed g306 (by kernel_rfl) (by kernel_rfl) (fun xx => ann0 (annOwn 166 102 37 26 xx.1)) fun xx => wp55 xx.1
abbrev G307 : Gam := (55, cTold) :: G306
theorem g307 [Sx.Dr] : GamOk Tryz.prog G307 := .cons ok55 g306
abbrev annSame (T : TypeId) (s : Sch) (a b : List s.T) (J : Nat → Prop) : Ann := { X := Nat, σ := fun k => ⟨2, [(0, .one (.sl 0)), (1, .one (.sl 1)), (5, .one (.int .i64 k))], [(0, .imm T s a), (1, .imm T s b)]⟩, inv := fun k => k ≤ a.length ∧ a.length = b.length ∧ J k, mu := fun k => a.length - k }
theorem same_step {α : Type} {a b : List α} {k : Nat} {d : α} (h : a.take k = b.take k) (hl : a.length = b.length) (hk : k < a.length) (he : a.getD k d = b.getD k d) : a.take (k + 1) = b.take (k + 1) := by
 rw [← take_snoc (d := d) hk, ← take_snoc (d := d) (by omega), h, he]
def cSameT : Con := { args := [.val false (.list 186 sStp), .val false (.list 186 sStp)], ress := [Bo], owns := [], pre := fun (a, b, _) => [a.length ≤ 1000000], spec := fun (a, b, _) => (decide (a = b), ()) }
def cSameA : Con := { args := [.val false (.list 130 sArr), .val false (.list 130 sArr)], ress := [Bo], owns := [], pre := fun (a, b, _) => [a.length ≤ 1000000], spec := fun (a, b, _) => (decide (a = b), ()) }
def cSameI : Con := { args := [.val false (.list 3 sI), .val false (.list 3 sI)], ress := [Bo], owns := [], pre := fun (a, b, _) => [a.length ≤ 1000000], spec := fun (a, b, _) => (decide (a = b), ()) }
def vc31_0 (a b : List Stp) (x : Nat) := (!((List.getD a x ((0 : Int), (0 : Int), false, (0 : Int), (0 : Int))).1 == (List.getD b x ((0 : Int), (0 : Int), false, (0 : Int), (0 : Int))).1 && ((List.getD a x ((0 : Int), (0 : Int), false, (0 : Int), (0 : Int))).2.1 == (List.getD b x ((0 : Int), (0 : Int), false, (0 : Int), (0 : Int))).2.1 && ((List.getD a x ((0 : Int), (0 : Int), false, (0 : Int), (0 : Int))).2.2.1 == (List.getD b x ((0 : Int), (0 : Int), false, (0 : Int), (0 : Int))).2.2.1 && ((List.getD a x ((0 : Int), (0 : Int), false, (0 : Int), (0 : Int))).2.2.2.1 == (List.getD b x ((0 : Int), (0 : Int), false, (0 : Int), (0 : Int))).2.2.2.1 && ((List.getD a x ((0 : Int), (0 : Int), false, (0 : Int), (0 : Int))).2.2.2.2 == (List.getD b x ((0 : Int), (0 : Int), false, (0 : Int), (0 : Int))).2.2.2.2 && true))))))
theorem vc31 : ∀ (a b : List Stp), wpF Tryz.prog G307 (ann0 (annSame (186 : TypeId) sStp a b fun (k : Nat) => List.take k a = List.take k b)) Tryz.f31 cSameT (a, b, ()) = (List.length a ≤ 1000000 → (((↑(List.length a) : Int) != (↑(List.length b) : Int)) = true → false = decide (a = b)) ∧ (((↑(List.length a) : Int) != (↑(List.length b) : Int)) = false → ∃ (x : Nat), (0 = (↑x : Int) ∧ a = a ∧ b = b) ∧ (x ≤ List.length a ∧ List.length a = List.length b ∧ List.take x a = List.take x b) ∧ ∀ (x : Nat), x ≤ List.length a ∧ List.length a = List.length b ∧ List.take x a = List.take x b → (decide ((↑x : Int) < (↑(List.length a) : Int)) = true → ((0 ≤ (↑x : Int) ∧ (↑x : Int) < (↑(List.length a) : Int)) ∧ (0 ≤ (↑x : Int) ∧ (↑x : Int) < (↑(List.length a) : Int)) ∧ (0 ≤ (↑x : Int) ∧ (↑x : Int) < (↑(List.length b) : Int)) ∧ 0 ≤ (↑x : Int) ∧ (↑x : Int) < (↑(List.length b) : Int)) ∧ ((vc31_0 a b x) = true → false = decide (a = b)) ∧ ((vc31_0 a b x) = false → ((-9223372036854775808) ≤ (↑x : Int) + 1 ∧ (↑x : Int) + (1 : Int) ≤ 9223372036854775807) ∧ ∃ (y : Nat), ((↑x : Int) + 1 = (↑y : Int) ∧ a = a ∧ b = b) ∧ (y ≤ List.length a ∧ List.length a = List.length b ∧ List.take y a = List.take y b) ∧ List.length a - y < List.length a - x)) ∧ (decide ((↑x : Int) < (↑(List.length a) : Int)) = false → true = decide (a = b)))) := by
 intros
 kernel_rfl
theorem wp31 (a b : List Stp) : wpF Tryz.prog G307 (ann0 (annSame 186 sStp a b fun k => a.take k = b.take k)) Tryz.f31 cSameT (a, b, ()) := by
 refine (vc31 a b).mpr ?_
 delta vc31_0
 intro hb
 refine ⟨fun h => ?_, fun h => ?_⟩
 ·have hne : ¬ a.length = b.length := by intro e; rw [e] at h; simp at h
  have : ¬ a = b := by rintro rfl; exact hne rfl
  simp [this]
 ·have hlen : a.length = b.length := by
   have : (a.length : Int) = b.length := by simpa using h
   omega
  refine ⟨(0 : Nat), ⟨rfl, rfl, rfl⟩, ⟨Nat.zero_le _, hlen, rfl⟩, fun (k : Nat) hk => ⟨fun h => ?_, fun h => ?_⟩⟩
  ·have hlt : k < a.length := by simpa using h
   refine ⟨by omega, fun h1 => ?_, fun h1 => ⟨by omega, (k + 1 : Nat), ⟨by simp, rfl, rfl⟩, ⟨by omega, hlen, ?_⟩, by omega⟩⟩
   ·have : ¬ a = b := by rintro rfl; simp at h1
    simp [this]
   ·have he : a.getD k (0, 0, false, 0, 0) = b.getD k (0, 0, false, 0, 0) := by
     simp only [Bool.not_eq_false', Bool.and_eq_true, beq_iff_eq, Bool.and_true] at h1
     exact Prod.ext h1.1 (Prod.ext h1.2.1 (Prod.ext h1.2.2.1 (Prod.ext h1.2.2.2.1 h1.2.2.2.2)))
    exact same_step hk.2.2 hlen hlt he
  ·have hlt : ¬ k < a.length := by simpa using h
   have hk' : k = a.length := by omega
   have h2 := hk.2.2
   rw [hk', List.take_length, hlen, List.take_length] at h2
   simp [h2]
theorem ok31 [Sx.Dr] : Ok Tryz.prog 31 cSameT := ok_of_wp mixed g307 (by kernel_rfl) (by kernel_rfl) (fun xx => ann0 (annSame 186 sStp xx.1 xx.2.1 fun k => xx.1.take k = xx.2.1.take k)) fun xx => wp31 xx.1 xx.2.1
abbrev G308 : Gam := (31, cSameT) :: G307
theorem g308 [Sx.Dr] : GamOk Tryz.prog G308 := .cons ok31 g307
def vc33_0 (a b : List Arr) (x : Nat) := (!((List.getD a x ((0 : Int), ByteArray.mk (Array.mk []), (0 : Int))).1 == (List.getD b x ((0 : Int), ByteArray.mk (Array.mk []), (0 : Int))).1 && (ByteArray.toList (List.getD a x ((0 : Int), ByteArray.mk (Array.mk []), (0 : Int))).2.1 == ByteArray.toList (List.getD b x ((0 : Int), ByteArray.mk (Array.mk []), (0 : Int))).2.1 && ((List.getD a x ((0 : Int), ByteArray.mk (Array.mk []), (0 : Int))).2.2 == (List.getD b x ((0 : Int), ByteArray.mk (Array.mk []), (0 : Int))).2.2 && true))))
theorem vc33 : ∀ (a b : List Arr), wpF Tryz.prog G308 (ann0 (annSame (130 : TypeId) sArr a b fun (k : Nat) => List.take k a = List.take k b)) Tryz.f33 cSameA (a, b, ()) = (List.length a ≤ 1000000 → (((↑(List.length a) : Int) != (↑(List.length b) : Int)) = true → false = decide (a = b)) ∧ (((↑(List.length a) : Int) != (↑(List.length b) : Int)) = false → ∃ (x : Nat), (0 = (↑x : Int) ∧ a = a ∧ b = b) ∧ (x ≤ List.length a ∧ List.length a = List.length b ∧ List.take x a = List.take x b) ∧ ∀ (x : Nat), x ≤ List.length a ∧ List.length a = List.length b ∧ List.take x a = List.take x b → (decide ((↑x : Int) < (↑(List.length a) : Int)) = true → ((0 ≤ (↑x : Int) ∧ (↑x : Int) < (↑(List.length a) : Int)) ∧ (0 ≤ (↑x : Int) ∧ (↑x : Int) < (↑(List.length a) : Int)) ∧ (0 ≤ (↑x : Int) ∧ (↑x : Int) < (↑(List.length b) : Int)) ∧ 0 ≤ (↑x : Int) ∧ (↑x : Int) < (↑(List.length b) : Int)) ∧ ((vc33_0 a b x) = true → false = decide (a = b)) ∧ ((vc33_0 a b x) = false → ((-9223372036854775808) ≤ (↑x : Int) + 1 ∧ (↑x : Int) + (1 : Int) ≤ 9223372036854775807) ∧ ∃ (y : Nat), ((↑x : Int) + 1 = (↑y : Int) ∧ a = a ∧ b = b) ∧ (y ≤ List.length a ∧ List.length a = List.length b ∧ List.take y a = List.take y b) ∧ List.length a - y < List.length a - x)) ∧ (decide ((↑x : Int) < (↑(List.length a) : Int)) = false → true = decide (a = b)))) := by
 intros
 kernel_rfl
theorem wp33 (a b : List Arr) : wpF Tryz.prog G308 (ann0 (annSame 130 sArr a b fun k => a.take k = b.take k)) Tryz.f33 cSameA (a, b, ()) := by
 refine (vc33 a b).mpr ?_
 delta vc33_0
 intro hb
 refine ⟨fun h => ?_, fun h => ?_⟩
 ·have hne : ¬ a.length = b.length := by intro e; rw [e] at h; simp at h
  have : ¬ a = b := by rintro rfl; exact hne rfl
  simp [this]
 ·have hlen : a.length = b.length := by
   have : (a.length : Int) = b.length := by simpa using h
   omega
  refine ⟨(0 : Nat), ⟨rfl, rfl, rfl⟩, ⟨Nat.zero_le _, hlen, rfl⟩, fun (k : Nat) hk => ⟨fun h => ?_, fun h => ?_⟩⟩
  ·have hlt : k < a.length := by simpa using h
   refine ⟨by omega, fun h1 => ?_, fun h1 => ⟨by omega, (k + 1 : Nat), ⟨by simp, rfl, rfl⟩, ⟨by omega, hlen, ?_⟩, by omega⟩⟩
   ·have : ¬ a = b := by rintro rfl; simp at h1
    simp [this]
   ·have he : a.getD k (0, ⟨⟨[]⟩⟩, 0) = b.getD k (0, ⟨⟨[]⟩⟩, 0) := by
     simp only [Bool.not_eq_false', Bool.and_eq_true, beq_iff_eq, Bool.and_true] at h1
     exact Prod.ext h1.1 (Prod.ext (ba_ext h1.2.1) h1.2.2)
    exact same_step hk.2.2 hlen hlt he
  ·have hlt : ¬ k < a.length := by simpa using h
   have hk' : k = a.length := by omega
   have h2 := hk.2.2
   rw [hk', List.take_length, hlen, List.take_length] at h2
   simp [h2]
theorem ok33 [Sx.Dr] : Ok Tryz.prog 33 cSameA := ok_of_wp mixed g308 (by kernel_rfl) (by kernel_rfl) (fun xx => ann0 (annSame 130 sArr xx.1 xx.2.1 fun k => xx.1.take k = xx.2.1.take k)) fun xx => wp33 xx.1 xx.2.1
abbrev G309 : Gam := (33, cSameA) :: G308
theorem g309 [Sx.Dr] : GamOk Tryz.prog G309 := .cons ok33 g308
theorem vc83 : ∀ (a b : List Int), wpF Tryz.prog G309 (ann0 (annSame (3 : TypeId) sI a b fun (k : Nat) => List.take k a = List.take k b)) Tryz.f83 cSameI (a, b, ()) = (List.length a ≤ 1000000 → (((↑(List.length a) : Int) != (↑(List.length b) : Int)) = true → false = decide (a = b)) ∧ (((↑(List.length a) : Int) != (↑(List.length b) : Int)) = false → ∃ (x : Nat), (0 = (↑x : Int) ∧ a = a ∧ b = b) ∧ (x ≤ List.length a ∧ List.length a = List.length b ∧ List.take x a = List.take x b) ∧ ∀ (x : Nat), x ≤ List.length a ∧ List.length a = List.length b ∧ List.take x a = List.take x b → (decide ((↑x : Int) < (↑(List.length a) : Int)) = true → ((0 ≤ (↑x : Int) ∧ (↑x : Int) < (↑(List.length a) : Int)) ∧ (0 ≤ (↑x : Int) ∧ (↑x : Int) < (↑(List.length a) : Int)) ∧ (0 ≤ (↑x : Int) ∧ (↑x : Int) < (↑(List.length b) : Int)) ∧ 0 ≤ (↑x : Int) ∧ (↑x : Int) < (↑(List.length b) : Int)) ∧ ((List.getD a x 0 != List.getD b x 0) = true → false = decide (a = b)) ∧ ((List.getD a x 0 != List.getD b x 0) = false → ((-9223372036854775808) ≤ (↑x : Int) + 1 ∧ (↑x : Int) + (1 : Int) ≤ 9223372036854775807) ∧ ∃ (y : Nat), ((↑x : Int) + 1 = (↑y : Int) ∧ a = a ∧ b = b) ∧ (y ≤ List.length a ∧ List.length a = List.length b ∧ List.take y a = List.take y b) ∧ List.length a - y < List.length a - x)) ∧ (decide ((↑x : Int) < (↑(List.length a) : Int)) = false → true = decide (a = b)))) := by
 intros
 kernel_rfl
theorem wp83 (a b : List Int) : wpF Tryz.prog G309 (ann0 (annSame 3 sI a b fun k => a.take k = b.take k)) Tryz.f83 cSameI (a, b, ()) := by
 refine (vc83 a b).mpr ?_
 intro hb
 refine ⟨fun h => ?_, fun h => ?_⟩
 ·have hne : ¬ a.length = b.length := by intro e; rw [e] at h; simp at h
  have : ¬ a = b := by rintro rfl; exact hne rfl
  simp [this]
 ·have hlen : a.length = b.length := by
   have : (a.length : Int) = b.length := by simpa using h
   omega
  refine ⟨(0 : Nat), ⟨rfl, rfl, rfl⟩, ⟨Nat.zero_le _, hlen, rfl⟩, fun (k : Nat) hk => ⟨fun h => ?_, fun h => ?_⟩⟩
  ·have hlt : k < a.length := by simpa using h
   refine ⟨by omega, fun h1 => ?_, fun h1 => ⟨by omega, (k + 1 : Nat), ⟨by simp, rfl, rfl⟩, ⟨by omega, hlen, ?_⟩, by omega⟩⟩
   ·have : ¬ a = b := by rintro rfl; simp at h1
    simp [this]
   ·have he : a.getD k 0 = b.getD k 0 := by
     simpa using h1
    exact same_step hk.2.2 hlen hlt he
  ·have hlt : ¬ k < a.length := by simpa using h
   have hk' : k = a.length := by omega
   have h2 := hk.2.2
   rw [hk', List.take_length, hlen, List.take_length] at h2
   simp [h2]
theorem ok83 [Sx.Dr] : Ok Tryz.prog 83 cSameI := ok_of_wp mixed g309 (by kernel_rfl) (by kernel_rfl) (fun xx => ann0 (annSame 3 sI xx.1 xx.2.1 fun k => xx.1.take k = xx.2.1.take k)) fun xx => wp83 xx.1 xx.2.1
abbrev G310 : Gam := (83, cSameI) :: G309
theorem g310 [Sx.Dr] : GamOk Tryz.prog G310 := .cons ok83 g309
def cSameC : Con := { args := [aCR, aCR], ress := [Bo], owns := [], pre := fun (a, b, _) => [a.1.length ≤ 1000000, a.2.1.length ≤ 1000000], spec := fun (a, b, _) => (decide (a = b), ()) }
abbrev annSC (a b : Cab) : Ann := { X := Nat, σ := fun k => ⟨6, [(2, .one (.ptr 4 0)), (3, .one (.ptr 5 0)), (5, .one (.int .i64 k))], [(0, .imm 102 sPt a.1), (1, .imm 3 sI a.2.1), (2, .imm 102 sPt b.1), (3, .imm 3 sI b.2.1), (4, .box 26 [.sl 0, .sl 1, .int .i64 a.2.2.1, .int .i64 a.2.2.2]), (5, .box 26 [.sl 2, .sl 3, .int .i64 b.2.2.1, .int .i64 b.2.2.2])]⟩, inv := fun k => k ≤ a.1.length ∧ a.1.length = b.1.length ∧ a.2 = b.2 ∧ a.1.take k = b.1.take k, mu := fun k => a.1.length - k }
def vc75_0 (a b : Cab) := (bif bif !(a.2.2.1 == b.2.2.1 && (a.2.2.2 == b.2.2.2 && true)) then true else !decide (a.2.1 = b.2.1) then true else (↑(List.length a.1) : Int) != (↑(List.length b.1) : Int))
def vc75_1 (a b : Cab) (x : Nat) := (!((List.getD a.1 x ((0 : Int), (0 : Int))).1 == (List.getD b.1 x ((0 : Int), (0 : Int))).1 && ((List.getD a.1 x ((0 : Int), (0 : Int))).2 == (List.getD b.1 x ((0 : Int), (0 : Int))).2 && true)))
theorem vc75 : ∀ (a b : Cab), wpF Tryz.prog G310 (ann0 (annSC a b)) Tryz.f75 cSameC (a, b, ()) = (List.length a.1 ≤ 1000000 → List.length a.2.1 ≤ 1000000 → ((!(a.2.2.1 == b.2.2.1 && (a.2.2.2 == b.2.2.2 && true))) = false → List.length a.2.1 ≤ 1000000) ∧ ((vc75_0 a b) = true → false = decide (a = b)) ∧ ((vc75_0 a b) = false → ∃ (x : Nat), (0 = (↑x : Int) ∧ a.1 = a.1 ∧ a.2.1 = a.2.1 ∧ b.1 = b.1 ∧ b.2.1 = b.2.1 ∧ a.2.2.1 = a.2.2.1 ∧ a.2.2.2 = a.2.2.2 ∧ b.2.2.1 = b.2.2.1 ∧ b.2.2.2 = b.2.2.2) ∧ (x ≤ List.length a.1 ∧ List.length a.1 = List.length b.1 ∧ a.2 = b.2 ∧ List.take x a.1 = List.take x b.1) ∧ ∀ (x : Nat), x ≤ List.length a.1 ∧ List.length a.1 = List.length b.1 ∧ a.2 = b.2 ∧ List.take x a.1 = List.take x b.1 → (decide ((↑x : Int) < (↑(List.length a.1) : Int)) = true → ((0 ≤ (↑x : Int) ∧ (↑x : Int) < (↑(List.length a.1) : Int)) ∧ (0 ≤ (↑x : Int) ∧ (↑x : Int) < (↑(List.length a.1) : Int)) ∧ (0 ≤ (↑x : Int) ∧ (↑x : Int) < (↑(List.length b.1) : Int)) ∧ 0 ≤ (↑x : Int) ∧ (↑x : Int) < (↑(List.length b.1) : Int)) ∧ ((vc75_1 a b x) = true → false = decide (a = b)) ∧ ((vc75_1 a b x) = false → ((-9223372036854775808) ≤ (↑x : Int) + 1 ∧ (↑x : Int) + (1 : Int) ≤ 9223372036854775807) ∧ ∃ (y : Nat), ((↑x : Int) + 1 = (↑y : Int) ∧ a.1 = a.1 ∧ a.2.1 = a.2.1 ∧ b.1 = b.1 ∧ b.2.1 = b.2.1 ∧ a.2.2.1 = a.2.2.1 ∧ a.2.2.2 = a.2.2.2 ∧ b.2.2.1 = b.2.2.1 ∧ b.2.2.2 = b.2.2.2) ∧ (y ≤ List.length a.1 ∧ List.length a.1 = List.length b.1 ∧ a.2 = b.2 ∧ List.take y a.1 = List.take y b.1) ∧ List.length a.1 - y < List.length a.1 - x)) ∧ (decide ((↑x : Int) < (↑(List.length a.1) : Int)) = false → true = decide (a = b)))) := by
 intros
 kernel_rfl
theorem wp75 (a b : Cab) : wpF Tryz.prog G310 (ann0 (annSC a b)) Tryz.f75 cSameC (a, b, ()) := by
 refine (vc75 a b).mpr ?_
 delta vc75_0 vc75_1
 intro h1 h2
 have key : (bif bif !(a.2.2.1 == b.2.2.1 && (a.2.2.2 == b.2.2.2 && true)) then true else !decide (a.2.1 = b.2.1) then true else ((a.1.length : Int) != b.1.length)) = !decide (a.2 = b.2 ∧ a.1.length = b.1.length) := by
  by_cases e1 : a.2.2.1 = b.2.2.1
  ·by_cases e2 : a.2.2.2 = b.2.2.2
   ·by_cases e3 : a.2.1 = b.2.1
    ·have e : a.2 = b.2 := Prod.ext e3 (Prod.ext e1 e2)
     by_cases e4 : a.1.length = b.1.length
     ·simp [e, e4]
     ·have : ((a.1.length : Int) != b.1.length) = true := by rw [bne_iff_ne]; omega
      simp [e, e4]
      omega
    ·have e : ¬ a.2 = b.2 := fun q => e3 (by rw [q])
     simp [e, e1, e2, e3]
   ·have e : ¬ a.2 = b.2 := fun q => e2 (by rw [q])
    simp [e, e2]
  ·have e : ¬ a.2 = b.2 := fun q => e1 (by rw [q])
   simp [e, e1]
 rw [key]
 refine ⟨fun _ => h2, fun h => ?_, fun h => ?_⟩
 ·have h : ¬ (a.2 = b.2 ∧ a.1.length = b.1.length) := of_decide_eq_false (by simpa only [Bool.not_eq_true'] using h)
  have : ¬ a = b := by rintro rfl; exact h ⟨rfl, rfl⟩
  simp [this]
 ·have h : a.2 = b.2 ∧ a.1.length = b.1.length := by simpa using h
  refine ⟨(0 : Nat), ⟨rfl, rfl, rfl, rfl, rfl, rfl, rfl, rfl, rfl⟩, ⟨Nat.zero_le _, h.2, h.1, rfl⟩, fun (k : Nat) hk => ⟨fun q => ?_, fun q => ?_⟩⟩
  ·have hlt : k < a.1.length := by simpa using q
   refine ⟨⟨by omega, by omega, by omega, by omega⟩, fun q1 => ?_, fun q1 => ⟨by omega, (k + 1 : Nat), ⟨by simp, rfl, rfl, rfl, rfl, rfl, rfl, rfl, rfl⟩, ⟨by omega, h.2, h.1, ?_⟩, by omega⟩⟩
   ·have : ¬ a = b := by rintro rfl; simp at q1
    simp [this]
   ·have he : a.1.getD k (0, 0) = b.1.getD k (0, 0) := by
     simp only [Bool.not_eq_false', Bool.and_eq_true, beq_iff_eq, Bool.and_true] at q1
     exact Prod.ext q1.1 q1.2
    exact same_step hk.2.2.2 h.2 hlt he
  ·have hge : ¬ k < a.1.length := by simpa using q
   have hk' : k = a.1.length := by omega
   have q2 := hk.2.2.2
   rw [hk', List.take_length, h.2, List.take_length] at q2
   have : a = b := Prod.ext q2 h.1
   simp [this]
theorem ok75 [Sx.Dr] : Ok Tryz.prog 75 cSameC := ok_of_wp mixed g310 (by kernel_rfl) (by kernel_rfl) (fun xx => ann0 (annSC xx.1 xx.2.1)) fun xx => wp75 xx.1 xx.2.1
abbrev G311 : Gam := (75, cSameC) :: G310
theorem g311 [Sx.Dr] : GamOk Tryz.prog G311 := .cons ok75 g310
def feq (x y : Nat) : Bool := FloatKind.f32.format.order x y == some .eq
def sameF : List Nat → List Nat → Bool
 | [], [] => true
 | x :: a, y :: b => feq x y && sameF a b
 | _, _ => false
abbrev sFl : Sch := .flt .f32
theorem sameF_len : ∀ {a b : List Nat}, sameF a b = true → a.length = b.length
 | [], [], _ => rfl
 | [], _ :: _, h => by cases h
 | _ :: _, [], h => by cases h
 | x :: a, y :: b, h => by
  simp only [sameF, Bool.and_eq_true] at h
  simp only [List.length_cons, sameF_len h.2]
def sameJ (a b : List Nat) (k : Nat) : Prop := sameF a b = sameF (a.drop k) (b.drop k)
def cSameF : Con := { args := [.val false (.list 164 sFl), .val false (.list 164 sFl)], ress := [Bo], owns := [], pre := fun (a, b, _) => [a.length ≤ 1000000], spec := fun (a, b, _) => (sameF a b, ()) }
theorem vc35 : ∀ (a b : List Nat), wpF Tryz.prog G311 (ann0 (annSame (164 : TypeId) sFl a b (sameJ a b))) Tryz.f35 cSameF (a, b, ()) = (List.length a ≤ 1000000 → (((↑(List.length a) : Int) != (↑(List.length b) : Int)) = true → false = sameF a b) ∧ (((↑(List.length a) : Int) != (↑(List.length b) : Int)) = false → ∃ (x : Nat), (0 = (↑x : Int) ∧ a = a ∧ b = b) ∧ (x ≤ List.length a ∧ List.length a = List.length b ∧ sameJ a b x) ∧ ∀ (x : Nat), x ≤ List.length a ∧ List.length a = List.length b ∧ sameJ a b x → (decide ((↑x : Int) < (↑(List.length a) : Int)) = true → ((0 ≤ (↑x : Int) ∧ (↑x : Int) < (↑(List.length a) : Int)) ∧ (0 ≤ (↑x : Int) ∧ (↑x : Int) < (↑(List.length a) : Int)) ∧ (0 ≤ (↑x : Int) ∧ (↑x : Int) < (↑(List.length b) : Int)) ∧ 0 ≤ (↑x : Int) ∧ (↑x : Int) < (↑(List.length b) : Int)) ∧ ((Ieee.Format.order (Ieee.Format.mk 8 23) (List.getD a x 0) (List.getD b x 0) != some Ordering.eq) = true → false = sameF a b) ∧ ((Ieee.Format.order (Ieee.Format.mk 8 23) (List.getD a x 0) (List.getD b x 0) != some Ordering.eq) = false → ((-9223372036854775808) ≤ (↑x : Int) + 1 ∧ (↑x : Int) + (1 : Int) ≤ 9223372036854775807) ∧ ∃ (y : Nat), ((↑x : Int) + 1 = (↑y : Int) ∧ a = a ∧ b = b) ∧ (y ≤ List.length a ∧ List.length a = List.length b ∧ sameJ a b y) ∧ List.length a - y < List.length a - x)) ∧ (decide ((↑x : Int) < (↑(List.length a) : Int)) = false → true = sameF a b))) := by
 intros
 kernel_rfl
theorem wp35 (a b : List Nat) : wpF Tryz.prog G311 (ann0 (annSame 164 sFl a b (sameJ a b))) Tryz.f35 cSameF (a, b, ()) := by
 refine (vc35 a b).mpr ?_
 intro hb
 refine ⟨fun h => ?_, fun h => ?_⟩
 ·cases e : sameF a b with
  | false => rfl
  | true => have := sameF_len e; rw [this] at h; simp at h
 ·have hlen : a.length = b.length := by
   have : (a.length : Int) = b.length := by simpa using h
   omega
  refine ⟨(0 : Nat), ⟨rfl, rfl, rfl⟩, ⟨Nat.zero_le _, hlen, rfl⟩, fun (k : Nat) hk => ⟨fun h => ?_, fun h => ?_⟩⟩
  ·have hlt : k < a.length := by simpa using h
   have hj : sameF a b = (feq (a.getD k 0) (b.getD k 0) && sameF (a.drop (k + 1)) (b.drop (k + 1))) := by
    have := hk.2.2
    unfold sameJ at this
    rw [this, drop_cons (d := 0) hlt, drop_cons (l := b) (k := k) (d := 0) (by omega)]
    rfl
   refine ⟨⟨by omega, by omega, by omega, by omega⟩, fun h1 => ?_, fun h1 => ⟨by omega, (k + 1 : Nat), ⟨by simp, rfl, rfl⟩, ⟨by omega, hlen, ?_⟩, by omega⟩⟩
   ·have h1 : feq (a.getD k 0) (b.getD k 0) = false := by
     unfold feq
     have h1 := bne_iff_ne.1 h1
     rw [beq_eq_false_iff_ne]; exact h1
    rw [hj, h1]; rfl
   ·have h1 : feq (a.getD k 0) (b.getD k 0) = true := by
     unfold feq
     have h1 := bne_eq_false_iff_eq.1 h1
     rw [beq_iff_eq]; exact h1
    unfold sameJ
    rw [hj, h1]; rfl
  ·have hlt : ¬ k < a.length := by simpa using h
   have h2 := hk.2.2
   unfold sameJ at h2
   rw [h2, List.drop_of_length_le (by omega), List.drop_of_length_le (by omega)]
   rfl
theorem ok35 [Sx.Dr] : Ok Tryz.prog 35 cSameF := ok_of_wp mixed g311 (by kernel_rfl) (by kernel_rfl) (fun xx => ann0 (annSame 164 sFl xx.1 xx.2.1 (sameJ xx.1 xx.2.1))) fun xx => wp35 xx.1 xx.2.1
abbrev G312 : Gam := (35, cSameF) :: G311
theorem g312 [Sx.Dr] : GamOk Tryz.prog G312 := .cons ok35 g311
def numS (have_ e bad want : Int) : Bool := (e == bad) && ((bad != 0 && have_ == 0) || (bad == 0 && have_ == want))
def cNum : Con := { args := [aI, aI, aI, aI], ress := [Bo], owns := [], pre := fun _ => [], spec := fun (h, e, b, w, _) => (numS h e b w, ()) }
theorem vc48 : ∀ (h e b w : Int), wpF Tryz.prog G312 (na ()) Tryz.f48 cNum (h, e, b, w, ()) = ((bif e == b then bif bif b != 0 then h == 0 else false then true else bif b == 0 then h == w else false else false) = numS h e b w) := by
 intros
 kernel_rfl
theorem wp48 (h e b w : Int) : wpF Tryz.prog G312 (na ()) Tryz.f48 cNum (h, e, b, w, ()) := by
 refine (vc48 h e b w).mpr ?_
 unfold numS
 cases (e == b) <;> cases (b != 0) <;> cases (h == 0) <;> cases (b == 0) <;> rfl
theorem ok48 [Sx.Dr] : Ok Tryz.prog 48 cNum := ok_of_wp mixed g312 (by kernel_rfl) (by kernel_rfl) na fun xx => wp48 xx.1 xx.2.1 xx.2.2.1 xx.2.2.2.1
abbrev G313 : Gam := (48, cNum) :: G312
theorem g313 [Sx.Dr] : GamOk Tryz.prog G313 := .cons ok48 g312
def largeS (n : Int) : Bool := decide (16384 < n) || decide (n < -16384)
def cLarge : Con := { args := [aI], ress := [Bo], owns := [], pre := fun _ => [], spec := fun (n, _) => (largeS n, ()) }
theorem vc101 : ∀ (n : Int), wpF Tryz.prog G313 (na ()) Tryz.f101 cLarge (n, ()) = ((bif decide (16384 < n) then true else decide (n < (-16384))) = largeS n) := by
 intros
 kernel_rfl
theorem wp101 (n : Int) : wpF Tryz.prog G313 (na ()) Tryz.f101 cLarge (n, ()) := by
 refine (vc101 n).mpr ?_
 unfold largeS
 cases decide (16384 < n) <;> rfl
theorem ok101 [Sx.Dr] : Ok Tryz.prog 101 cLarge := ok_of_wp mixed g313 (by kernel_rfl) (by kernel_rfl) na fun xx => wp101 xx.1
abbrev G314 : Gam := (101, cLarge) :: G313
theorem g314 [Sx.Dr] : GamOk Tryz.prog G314 := .cons ok101 g313
open Ieee in
theorem read_word (neg : Bool) {rung : Nat} (h : rung ≤ single.infRung) : ∀ s t, single.read (single.word neg rung) ≠ .nan s t := by
 have e1 : single.infRung = 2139095040 := by decide
 have e2 : single.signWeight = 2147483648 := by decide
 have e3 : single.binade = 8388608 := by decide
 have e4 : single.word neg rung % single.signWeight = rung := by
  unfold Format.word
  rw [e2]
  rw [e1] at h
  cases neg
  ·rw [if_neg (by decide)]; omega
  ·rw [if_pos rfl]; omega
 intro s t
 unfold Format.read
 simp only [e4]
 rw [e1, e3]
 rw [e1] at h
 by_cases h1 : rung < 8388608
 ·rw [if_pos h1]; exact fun q => by cases q
 ·rw [if_neg h1]
  by_cases h2 : rung < 2139095040
  ·rw [if_pos h2]; exact fun q => by cases q
  ·rw [if_neg h2, if_pos (by omega)]; exact fun q => by cases q
open Ieee in
theorem read_near (neg : Bool) (mag : Nat) (place : Int) : ∀ s t, single.read (single.nearest neg mag place) ≠ .nan s t := by
 unfold Format.nearest
 split
 ·exact read_word neg (Nat.zero_le _)
 ·exact read_word neg (Nat.min_le_right _ _)
open Ieee in
theorem order_self {d : Datum} (h : ∀ s t, d ≠ .nan s t) : d.order d = some .eq := by
 cases d with
 | nan s t => exact absurd rfl (h s t)
 | infinity s => simp [Datum.order]
 | number s m i => simp [Datum.order]
open Ieee in
theorem quot_some {d : Datum} (h : ∀ s t, d ≠ .nan s t) (n : Nat) (s : Bool) (m : Nat) (i : Int) (hm : m ≠ 0) : ∃ e, d.quotient n (.number s m i) = some e ∧ ∀ s t, e ≠ .nan s t := by
 cases d with
 | nan s t => exact absurd rfl (h s t)
 | infinity s => exact ⟨_, rfl, fun _ _ q => by cases q⟩
 | number s m i =>
  simp only [Datum.quotient]
  rw [if_neg hm]
  exact ⟨_, rfl, fun _ _ q => by cases q⟩
def smpS (n : Int) : Nat := (FloatKind.f32.format.div (FloatKind.f32.nearest n) 1098907648).getD 0
open Ieee in
theorem smp_some (n : Int) : (FloatKind.f32.format.div (FloatKind.f32.nearest n) 1098907648).isSome = true ∧ feq (smpS n) (smpS n) = true := by
 have e16 : single.read 1098907648 = .number false 8388608 (-19) := by kernel_rfl
 have h := read_near (decide (n < 0)) n.natAbs 0
 obtain ⟨e, he, hn⟩ := quot_some h 25 false 8388608 (-19) (by decide)
 have hd : FloatKind.f32.format.div (FloatKind.f32.nearest n) 1098907648 = some (single.write e) := by
  show ((single.read (single.nearest (decide (n < 0)) n.natAbs 0)).quotient (single.fractionBits + 2) (single.read 1098907648)).map single.write = _
  rw [e16]
  have : single.fractionBits + 2 = 25 := rfl
  rw [this, he]; rfl
 refine ⟨by rw [hd]; rfl, ?_⟩
 have hs : smpS n = single.write e := by unfold smpS; rw [hd]; rfl
 unfold feq
 rw [beq_iff_eq, hs]
 refine order_self ?_
 cases e with
 | nan s t => exact absurd rfl (hn s t)
 | infinity s => exact read_word s (Nat.le_refl _)
 | number s m i => exact read_near s m i
def cSmp : Con := { args := [aI], ress := [(false, sFl)], owns := [], pre := fun _ => [], spec := fun (n, _) => (smpS n, ()) }
theorem vc102 : ∀ (n : Int), wpF Tryz.prog G314 (na ()) Tryz.f102 cSmp (n, ()) = (Option.isSome (Ieee.Format.div (Ieee.Format.mk 8 23) (FloatKind.nearest FloatKind.f32 n) 1098907648) = true ∧ Option.getD (Ieee.Format.div (Ieee.Format.mk 8 23) (FloatKind.nearest FloatKind.f32 n) 1098907648) 0 = smpS n) := by
 intros
 kernel_rfl
theorem wp102 (n : Int) : wpF Tryz.prog G314 (na ()) Tryz.f102 cSmp (n, ()) := by
 refine (vc102 n).mpr ?_
 exact ⟨(smp_some n).1, rfl⟩
theorem ok102 [Sx.Dr] : Ok Tryz.prog 102 cSmp := ok_of_wp mixed g314 (by kernel_rfl) (by kernel_rfl) na fun xx => wp102 xx.1
abbrev G315 : Gam := (102, cSmp) :: G314
theorem g315 [Sx.Dr] : GamOk Tryz.prog G315 := .cons ok102 g314
def lineC : Cab := ([(1000, 4), (3000, 6)], [2], 4, 0)
def faultC : Flt := (0, 1, 100, 16)
def cLineC : Con := { args := [], ress := [(true, sCab 166)], owns := [], pre := fun _ => [], spec := fun _ => (lineC, ()) }
theorem vc81 : wpF Tryz.prog G315 (na ()) Tryz.f81 cLineC () = (([(1000, 4), (3000, 6)], [2], 4, 0) = lineC) := by
 intros
 kernel_rfl
theorem wp81  : wpF Tryz.prog G315 (na ()) Tryz.f81 cLineC () := by
 refine vc81.mpr ?_
 rfl
theorem ok81 [Sx.Dr] : Ok Tryz.prog 81 cLineC := ok_of_wp mixed g315 (by kernel_rfl) (by kernel_rfl) na fun xx => wp81 
abbrev G316 : Gam := (81, cLineC) :: G315
theorem g316 [Sx.Dr] : GamOk Tryz.prog G316 := .cons ok81 g315
def cFaultC : Con := { args := [], ress := [(true, sFlt)], owns := [], pre := fun _ => [], spec := fun _ => (faultC, ()) }
theorem vc82 : wpF Tryz.prog G316 (na ()) Tryz.f82 cFaultC () = ((0, 1, 100, 16) = faultC) := by
 intros
 kernel_rfl
theorem wp82  : wpF Tryz.prog G316 (na ()) Tryz.f82 cFaultC () := by
 refine vc82.mpr ?_
 rfl
theorem ok82 [Sx.Dr] : Ok Tryz.prog 82 cFaultC := ok_of_wp mixed g316 (by kernel_rfl) (by kernel_rfl) na fun xx => wp82 
set_option maxHeartbeats 20000000
abbrev Key : Type := Int × ByteArray
def hitK (n : Int) (k : Key) (w : Stp) : Prop := (w.2.1 = 0 ∨ w.2.1 = n) ∧ w.1 = k.1 ∧ endW w = k.2
instance (n : Int) (k : Key) (w : Stp) : Decidable (hitK n k w) := inferInstanceAs (Decidable ((w.2.1 = 0 ∨ w.2.1 = n) ∧ w.1 = k.1 ∧ endW w = k.2))
def sumK (n : Int) (k : Key) : List Stp → Int
 | [] => 0
 | w :: r => (if hitK n k w then w.2.2.2.2 else 0) + sumK n k r
def hasK (n : Int) (k : Key) (l : List Stp) : Prop := ∃ w ∈ l, hitK n k w
theorem sumK_append (n : Int) (k : Key) (l r : List Stp) : sumK n k (l ++ r) = sumK n k l + sumK n k r := by
 induction l with
 | nil => simp [sumK]
 | cons w l ih => simp only [List.cons_append, sumK, ih]; omega
theorem sumK_one (n : Int) (k : Key) (w : Stp) : sumK n k [w] = if hitK n k w then w.2.2.2.2 else 0 := by simp [sumK]
theorem sumK_perm {n : Int} {k : Key} {l r : List Stp} (h : l.Perm r) : sumK n k l = sumK n k r := by
 induction h with
 | nil => rfl
 | cons x _ ih => simp only [sumK, ih]
 | swap x y l => simp only [sumK]; omega
 | trans _ _ h1 h2 => rw [h1, h2]
theorem hasK_perm {n : Int} {k : Key} {l r : List Stp} (h : l.Perm r) : hasK n k l ↔ hasK n k r :=
 ⟨fun ⟨w, hw, hk⟩ => ⟨w, h.mem_iff.1 hw, hk⟩, fun ⟨w, hw, hk⟩ => ⟨w, h.mem_iff.2 hw, hk⟩⟩
theorem sumK_none {n : Int} {k : Key} : ∀ {l : List Stp}, ¬ hasK n k l → sumK n k l = 0
 | [], _ => rfl
 | w :: r, h => by
  simp only [sumK]
  rw [if_neg fun q => h ⟨w, by simp, q⟩, sumK_none fun ⟨x, hx, hk⟩ => h ⟨x, by simp [hx], hk⟩]; rfl
theorem hasK_snoc {n : Int} {k : Key} {l : List Stp} {w : Stp} : hasK n k (l ++ [w]) ↔ hasK n k l ∨ hitK n k w := by
 constructor
 ·rintro ⟨x, hx, hk⟩
  rcases List.mem_append.1 hx with hx | hx
  ·exact .inl ⟨x, hx, hk⟩
  ·rw [List.mem_singleton.1 hx] at hk; exact .inr hk
 ·rintro (⟨x, hx, hk⟩ | hk)
  ·exact ⟨x, by simp [hx], hk⟩
  ·exact ⟨w, by simp, hk⟩
theorem snoc_ind {α : Type} {Q : List α → Prop} (h0 : Q []) (h1 : ∀ l x, Q l → Q (l ++ [x])) (l : List α) : Q l := by
 have : ∀ r : List α, Q r.reverse := fun r => by
  induction r with
  | nil => exact h0
  | cons x r ih => rw [List.reverse_cons]; exact h1 _ _ ih
 simpa using this l.reverse
theorem mp_get_ne {k k' : Arr} (hk : k ≠ k') (u : Int) : ∀ m : AM, mpGet sArr k' (mpSet sArr k u m) = mpGet sArr k' m
 | [] => by
  simp only [mpSet, mpGet]
  rw [if_neg fun h => hk (keyA_eq.1 h).symm]
 | x :: r => by
  simp only [mpSet]
  split
  ·rename_i h
   have e := keyA_eq.1 h
   simp only [mpGet]
   rw [if_neg fun h => hk (keyA_eq.1 h).symm, if_neg fun h => hk (by rw [e]; exact (keyA_eq.1 h).symm)]
  ·rename_i h
   simp only [mpGet]
   rw [mp_get_ne hk u r]
theorem sumsM_get (c : Cab) (l : List Stp) : ∀ (k : Arr) (v : Int), k.2.2 = 0 → (mpGet sArr k (sumsM c l) = some v ↔ hasK c.1.length (k.1, k.2.1) l ∧ v = sumK c.1.length (k.1, k.2.1) l) := by
 refine snoc_ind (Q := fun l => ∀ (k : Arr) (v : Int), k.2.2 = 0 → (mpGet sArr k (sumsM c l) = some v ↔ hasK c.1.length (k.1, k.2.1) l ∧ v = sumK c.1.length (k.1, k.2.1) l)) ?_ ?_ l
 ·intro k v _
  exact ⟨fun h => by simp [sumsM, mpGet] at h, fun ⟨⟨w, hw, _⟩, _⟩ => by simp at hw⟩
 ·intro l w ih k v hk
  rw [sumsM_snoc, hasK_snoc, sumK_append, sumK_one]
  have key : ∀ e : ByteArray, endW w = e → (w.2.1 = 0 ∨ w.2.1 = c.1.length) → hitM c (sumsM c l) w = addM (sumsM c l) (w.1, e, 0) w.2.2.2.2 → (mpGet sArr k (hitM c (sumsM c l) w) = some v ↔ (hasK c.1.length (k.1, k.2.1) l ∨ hitK c.1.length (k.1, k.2.1) w) ∧ v = sumK c.1.length (k.1, k.2.1) l + if hitK c.1.length (k.1, k.2.1) w then w.2.2.2.2 else 0) := by
   intro e he hh hm
   rw [hm]
   unfold addM
   by_cases hq : hitK c.1.length (k.1, k.2.1) w
   ·have ek : (w.1, e, 0) = k := by
     obtain ⟨_, h1, h2⟩ := hq
     exact Prod.ext h1 (Prod.ext (he.symm.trans h2) hk.symm)
    rw [ek, mp_get_set, if_pos hq]
    cases hg : mpGet sArr k (sumsM c l) with
    | none =>
     have : ¬ hasK c.1.length (k.1, k.2.1) l := fun q => by
      have := (ih k _ hk).2 ⟨q, rfl⟩
      rw [hg] at this; cases this
     rw [sumK_none this]
     simp only [Option.getD_none, Option.some.injEq]
     exact ⟨fun h => ⟨.inr hq, h.symm⟩, fun h => h.2.symm⟩
    | some u =>
     have := (ih k u hk).1 hg
     rw [← this.2]
     simp only [Option.getD_some, Option.some.injEq]
     exact ⟨fun h => ⟨.inr hq, h.symm⟩, fun h => h.2.symm⟩
   ·rw [mp_get_ne (fun q => hq ⟨hh, by rw [← q], by rw [← q]; exact he⟩), if_neg hq, ih k v hk, Int.add_zero]
    exact ⟨fun h => ⟨.inl h.1, h.2⟩, fun h => ⟨h.1.resolve_right hq, h.2⟩⟩
  by_cases h0 : w.2.1 = 0
  ·exact key sA (by unfold endW; rw [if_pos h0]) (.inl h0) (by unfold hitM; rw [if_pos h0])
  ·by_cases h1 : w.2.1 = c.1.length
   ·exact key sB (by unfold endW; rw [if_neg h0]) (.inr h1) (by unfold hitM; rw [if_neg h0, if_pos h1])
   ·have hq : ¬ hitK c.1.length (k.1, k.2.1) w := fun q => q.1.elim h0 h1
    rw [if_neg hq, Int.add_zero]
    unfold hitM
    rw [if_neg h0, if_neg h1, ih k v hk]
    exact ⟨fun h => ⟨.inl h.1, h.2⟩, fun h => ⟨h.1.resolve_right hq, h.2⟩⟩
theorem mp_mem_get {k : Arr} {v : Int} : ∀ {m : AM}, (m.Pairwise fun a b => a.1 ≠ b.1) → (k, v) ∈ m → mpGet sArr k m = some v
 | [], _, h => by simp at h
 | x :: r, hp, h => by
  replace hp := List.pairwise_cons.1 hp
  simp only [mpGet]
  rcases List.mem_cons.1 h with h | h
  ·subst h; rw [if_pos (keyA_refl _)]
  ·rw [if_neg fun q => hp.1 _ h (keyA_eq.1 q).symm]
   exact mp_mem_get hp.2 h
theorem sumsM_mem {c : Cab} {l : List Stp} (h : ∀ w ∈ l, wvH c w) (a : Arr) : a ∈ (sumsM c l).map rowA ↔ hasK c.1.length (a.1, a.2.1) l ∧ a.2.2 = sumK c.1.length (a.1, a.2.1) l := by
 have ho := sumsM_ok h
 rw [← sumsM_get c l (a.1, a.2.1, 0) a.2.2 rfl]
 constructor
 ·intro hm
  obtain ⟨p, hp, rfl⟩ := List.mem_map.1 hm
  have h0 := ho.2.2.2 p hp
  have : (rowA p).1 = p.1.1 ∧ (rowA p).2.1 = p.1.2.1 ∧ (rowA p).2.2 = p.2 := ⟨rfl, rfl, rfl⟩
  rw [this.1, this.2.1, this.2.2]
  have e : (p.1.1, p.1.2.1, (0 : Int)) = p.1 := Prod.ext rfl (Prod.ext rfl h0.symm)
  rw [e]
  exact mp_mem_get ho.2.2.1 hp
 ·intro hg
  exact List.mem_map.2 ⟨_, mp_get_mem hg, rfl⟩
theorem srtA_snoc {o : List Arr} {x : Arr} (h : srtA o) (hx : ∀ a ∈ o, ltA a x) : srtA (o ++ [x]) := by
 refine List.pairwise_append.2 ⟨h, by simp, fun a ha b hb => ?_⟩
 rw [List.mem_singleton.1 hb]; exact hx a ha
theorem snoc_of_ne {o : List Arr} (h : o ≠ []) : o = o.take (o.length - 1) ++ [lastA o] := by
 have hp : 0 < o.length := List.length_pos_iff.2 h
 unfold lastA
 rw [take_snoc (by omega), show o.length - 1 + 1 = o.length by omega, List.take_length]
theorem key_le {x w : Stp} (hx : 0 ≤ x.2.1) (h : ¬ ltP w x) (u v : Int) : ¬ ltA (w.1, endW w, u) (x.1, endW x, v) := by
 rintro (q | ⟨q1, q2⟩)
 ·exact h (.inl q)
 ·have q1 : w.1 = x.1 := q1
  have q2 : bLt (endW w) (endW x) = true := q2
  unfold endW at q2
  by_cases hw0 : w.2.1 = 0
  ·by_cases hx0 : x.2.1 = 0
   ·rw [if_pos hw0, if_pos hx0] at q2
    unfold bLt at q2; rw [bl_irrefl] at q2; cases q2
   ·exact h (.inr ⟨q1, .inl (by omega)⟩)
  ·rw [if_neg hw0] at q2
   split at q2
   ·revert q2; unfold bLt; rw [Lib.toList_data, Lib.toList_data]; decide
   ·unfold bLt at q2; rw [bl_irrefl] at q2; cases q2
theorem refA_spec {c : Cab} (l : List Stp) : (∀ w ∈ l, 0 ≤ w.2.1) → srtd l → srtA (refA c l) ∧ ∀ a : Arr, a ∈ refA c l ↔ hasK c.1.length (a.1, a.2.1) l ∧ a.2.2 = sumK c.1.length (a.1, a.2.1) l := by
 refine snoc_ind (Q := fun l => (∀ w ∈ l, 0 ≤ w.2.1) → srtd l → srtA (refA c l) ∧ ∀ a : Arr, a ∈ refA c l ↔ hasK c.1.length (a.1, a.2.1) l ∧ a.2.2 = sumK c.1.length (a.1, a.2.1) l) ?_ ?_ l
 ·intro _ _
  exact ⟨by simp [refA, srtA], fun a => ⟨fun h => by simp [refA] at h, fun ⟨⟨w, hw, _⟩, _⟩ => by simp at hw⟩⟩
 ·intro l w ih h0 hs
  replace hs := List.pairwise_append.1 hs
  obtain ⟨i1, i2⟩ := ih (fun x hx => h0 x (by simp [hx])) hs.1
  have hw : ∀ x ∈ l, ¬ ltP w x := fun x hx => hs.2.2 x hx w (by simp)
  rw [refA_snoc]
  unfold stepR'
  by_cases hh : w.2.1 ≠ 0 ∧ w.2.1 ≠ c.1.length
  ·rw [if_pos hh]
   refine ⟨i1, fun a => ?_⟩
   have hq : ¬ hitK c.1.length (a.1, a.2.1) w := fun q => q.1.elim hh.1 hh.2
   rw [hasK_snoc, sumK_append, sumK_one, if_neg hq, Int.add_zero, i2]
   exact ⟨fun h => ⟨.inl h.1, h.2⟩, fun h => ⟨h.1.resolve_right hq, h.2⟩⟩
  ·rw [if_neg hh]
   have hh : w.2.1 = 0 ∨ w.2.1 = c.1.length := by
    by_cases q : w.2.1 = 0
    ·exact .inl q
    ·by_cases q' : w.2.1 = c.1.length
     ·exact .inr q'
     ·exact absurd ⟨q, q'⟩ hh
   have hself : ∀ k : Key, hitK c.1.length k w ↔ k = (w.1, endW w) := fun k => ⟨fun q => (Prod.ext q.2.1 q.2.2).symm, fun q => by rw [q]; exact ⟨hh, rfl, rfl⟩⟩
   have hle : ∀ a ∈ refA c l, ¬ ltA (w.1, endW w, 0) a := fun a ha => by
    obtain ⟨⟨x, hx, hk⟩, _⟩ := (i2 a).1 ha
    have := key_le (h0 x (by simp [hx])) (hw x hx) 0 a.2.2
    have e : (x.1, endW x, a.2.2) = a := Prod.ext hk.2.1 (Prod.ext hk.2.2 rfl)
    rwa [e] at this
   generalize refA c l = o at *
   by_cases hc : o ≠ [] ∧ (lastA o).1 = w.1 ∧ (lastA o).2.1 = endW w
   ·rw [if_pos hc]
    have eo := snoc_of_ne hc.1
    have hp : 0 < o.length := List.length_pos_iff.2 hc.1
    have es : o.set (o.length - 1) (w.1, endW w, (lastA o).2.2 + w.2.2.2.2) = o.take (o.length - 1) ++ [(w.1, endW w, (lastA o).2.2 + w.2.2.2.2)] := by
     rw [List.set_eq_take_append_cons_drop, if_pos (by omega), List.drop_of_length_le (by omega)]
    rw [es]
    have hlast : lastA o ∈ o := last_mem hc.1
    have hl := (i2 (lastA o)).1 hlast
    rw [eo] at i1
    replace i1 := List.pairwise_append.1 i1
    have hlt : ∀ a ∈ o.take (o.length - 1), ltA a (lastA o) := fun a ha => i1.2.2 a ha _ (by simp)
    have ltk : ∀ a, ltA a (lastA o) → ∀ v, ltA a (w.1, endW w, v) := fun a q v => by
     unfold ltA at q ⊢; rw [hc.2.1, hc.2.2] at q; exact q
    refine ⟨srtA_snoc i1.1 fun a ha => ltk a (hlt a ha) _, fun a => ?_⟩
    rw [hasK_snoc, sumK_append, sumK_one]
    by_cases hq : hitK c.1.length (a.1, a.2.1) w
    ·have hk := (hself _).1 hq
     have k1 : a.1 = w.1 := congrArg Prod.fst hk
     have k2 : a.2.1 = endW w := congrArg Prod.snd hk
     rw [if_pos hq, k1, k2]
     rw [hc.2.1, hc.2.2] at hl
     rw [← hl.2]
     constructor
     ·intro ha
      rcases List.mem_append.1 ha with ha | ha
      ·exfalso
       have := ltk a (hlt a ha) 0
       unfold ltA at this
       rw [k1, k2] at this
       rcases this with q | ⟨_, q⟩
       ·exact absurd q (Int.lt_irrefl _)
       ·unfold bLt at q; rw [bl_irrefl] at q; cases q
      ·rw [List.mem_singleton.1 ha]
       exact ⟨.inl hl.1, rfl⟩
     ·rintro ⟨_, h2⟩
      refine List.mem_append.2 (.inr (List.mem_singleton.2 ?_))
      exact Prod.ext k1 (Prod.ext k2 h2)
    ·rw [if_neg hq, Int.add_zero]
     have hi := i2 a
     constructor
     ·intro ha
      rcases List.mem_append.1 ha with ha | ha
      ·have := hi.1 (List.mem_of_mem_take ha)
       exact ⟨.inl this.1, this.2⟩
      ·rw [List.mem_singleton.1 ha] at hq
       exact absurd ((hself _).2 rfl) hq
     ·rintro ⟨h1, h2⟩
      have := hi.2 ⟨h1.resolve_right hq, h2⟩
      rw [eo] at this
      rcases List.mem_append.1 this with ha | ha
      ·exact List.mem_append.2 (.inl ha)
      ·rw [List.mem_singleton.1 ha] at hq
       exact absurd ((hself _).2 (Prod.ext hc.2.1 hc.2.2)) hq
   ·rw [if_neg hc]
    have hlt : ∀ a ∈ o, ltA a (w.1, endW w, w.2.2.2.2) := by
     intro a ha
     refine ltA_tri (hle a ha) fun q => ?_
     have q1 : a.1 = w.1 := q.1
     have q2 : a.2.1 = endW w := q.2
     have hne : o ≠ [] := fun e => by rw [e] at ha; simp at ha
     have hl := hle _ (last_mem hne)
     refine hc ⟨hne, ?_⟩
     by_cases hkk : (lastA o).1 = w.1 ∧ (lastA o).2.1 = endW w
     ·exact hkk
     ·exfalso
      have h3 : ltA (lastA o) (w.1, endW w, 0) := ltA_tri hl hkk
      rw [snoc_of_ne hne] at ha i1
      replace i1 := List.pairwise_append.1 i1
      have h4 : ¬ ltA (lastA o) a := by
       rcases List.mem_append.1 ha with ha | ha
       ·exact fun q => ltA_irrefl _ (ltA_trans q (i1.2.2 a ha _ (by simp)))
       ·rw [List.mem_singleton.1 ha]; exact ltA_irrefl _
      refine h4 ?_
      unfold ltA at h3 ⊢
      rw [q1, q2]; exact h3
    refine ⟨srtA_snoc i1 fun a ha => hlt a ha, fun a => ?_⟩
    rw [hasK_snoc, sumK_append, sumK_one]
    by_cases hq : hitK c.1.length (a.1, a.2.1) w
    ·have hk := (hself _).1 hq
     have k1 : a.1 = w.1 := congrArg Prod.fst hk
     have k2 : a.2.1 = endW w := congrArg Prod.snd hk
     have hno : ¬ hasK c.1.length (a.1, a.2.1) l := fun q => by
      have hm := (i2 (a.1, a.2.1, sumK c.1.length (a.1, a.2.1) l)).2 ⟨q, rfl⟩
      have := hlt _ hm
      unfold ltA at this
      dsimp only at this
      rw [k1, k2] at this
      rcases this with q | ⟨_, q⟩
      ·exact absurd q (Int.lt_irrefl _)
      ·unfold bLt at q; rw [bl_irrefl] at q; cases q
     rw [if_pos hq, sumK_none hno, Int.zero_add]
     constructor
     ·intro ha
      rcases List.mem_append.1 ha with ha | ha
      ·exact absurd ((i2 a).1 ha).1 hno
      ·have := List.mem_singleton.1 ha
       exact ⟨.inr hq, by rw [this]⟩
     ·rintro ⟨_, h2⟩
      exact List.mem_append.2 (.inr (List.mem_singleton.2 (Prod.ext k1 (Prod.ext k2 h2))))
    ·rw [if_neg hq, Int.add_zero]
     constructor
     ·intro ha
      rcases List.mem_append.1 ha with ha | ha
      ·have := (i2 a).1 ha
       exact ⟨.inl this.1, this.2⟩
      ·rw [List.mem_singleton.1 ha] at hq
       exact absurd ((hself _).2 rfl) hq
     ·rintro ⟨h1, h2⟩
      exact List.mem_append.2 (.inl ((i2 a).2 ⟨h1.resolve_right hq, h2⟩))
theorem srtA_nodup {l : List Arr} (h : srtA l) : l.Nodup := List.Pairwise.imp (fun {a b} q e => by subst e; exact ltA_irrefl _ q) h
theorem srtA_ext {l l' : List Arr} (h : srtA l) (h' : srtA l') (he : ∀ a, a ∈ l ↔ a ∈ l') : l = l' :=
 srtA_unique ((List.perm_ext_iff_of_nodup (srtA_nodup h) (srtA_nodup h')).2 he) h h'
theorem sortT_perm (l : List Stp) : (sortT l).Perm l := insAll_perm l []
theorem sortT_sorted (l : List Stp) : srtd (sortT l) := insAll_sorted l .nil
theorem refA_eq {c : Cab} {l : List Stp} (h : ∀ w ∈ l, wvH c w) : refA c (sortT l) = sortA ((sumsM c l).map rowA) := by
 have hp := sortT_perm l
 obtain ⟨r1, r2⟩ := refA_spec (c := c) (sortT l) (fun w hw => (h w (hp.mem_iff.1 hw)).2.1.1) (sortT_sorted l)
 refine srtA_ext r1 (sortA_sorted (rowA_ne (sumsM_ok h))) fun a => ?_
 rw [r2, (sortA_perm _).mem_iff, sumsM_mem h, hasK_perm hp, sumK_perm hp]
theorem arrS_eq {c : Cab} {f : Flt} {win : Int} (h : fltV c f) : refA c (runR c f win) = arrS c f win := refA_eq fun w hw => ((waves_H h).1 w hw).1
theorem arrS_sorted {c : Cab} {f : Flt} {win : Int} (h : fltV c f) : srtA (arrS c f win) := sortA_sorted (rowA_ne (sumsM_ok fun w hw => ((waves_H h).1 w hw).1))
theorem arrS_mem {c : Cab} {f : Flt} {win : Int} (h : fltV c f) (a : Arr) : a ∈ arrS c f win ↔ hasK c.1.length (a.1, a.2.1) (wavesS c f win) ∧ a.2.2 = sumK c.1.length (a.1, a.2.1) (wavesS c f win) := by
 rw [← sumsM_mem fun w hw => ((waves_H h).1 w hw).1]
 exact (sortA_perm _).mem_iff
theorem arrS_bd {c : Cab} {f : Flt} {win : Int} (h : fltV c f) : arrB (arrS c f win) ∧ (arrS c f win).length ≤ 4374 := by
 have hH : ∀ w ∈ wavesS c f win, wvH c w := fun w hw => ((waves_H h).1 w hw).1
 have hL := (waves_H (win := win) h).2
 have ho := sumsM_ok hH
 refine ⟨fun a ha => ?_, ?_⟩
 ·obtain ⟨p, hp, rfl⟩ := List.mem_map.1 ((sortA_perm _).mem_iff.1 ha)
  have := ho.2.1 p hp
  show -80000000000000 ≤ p.2 ∧ p.2 ≤ 80000000000000
  omega
 ·unfold arrS
  rw [(sortA_perm _).length_eq, List.length_map]
  have := ho.1; omega
set_option maxHeartbeats 20000000
def tree (c : Cab) (last : Int) : Nat → Stp → List Stp
 | 0, _ => []
 | n + 1, w => if last < w.1 then [] else w :: (childS c w).flatMap (tree c last n)
theorem child_hop {c : Cab} {w x : Stp} (h : x ∈ childS c w) : x.2.2.2.1 = w.2.2.2.1 + 1 ∧ w.2.2.2.1 ≠ 6 := by
 unfold childS at h
 split at h
 ·simp at h
 ·rename_i h6
  refine ⟨?_, h6⟩
  split at h
  ·exact sent_hop h
  ·split at h
   ·exact sent_hop h
   ·rcases List.mem_append.1 h with h | h
    ·exact sent_hop h
    ·exact sent_hop h
theorem flatMap_congr' {α β : Type} {l : List α} {f g : α → List β} (h : ∀ x ∈ l, f x = g x) : l.flatMap f = l.flatMap g := by
 induction l with
 | nil => rfl
 | cons x l ih => rw [List.flatMap_cons, List.flatMap_cons, h x (by simp), ih fun y hy => h y (by simp [hy])]
theorem tree_fuel {c : Cab} {last : Int} : ∀ {n m : Nat} {w : Stp}, (0 ≤ w.2.2.2.1 ∧ w.2.2.2.1 ≤ 6) → (7 : Int) ≤ n + w.2.2.2.1 → (7 : Int) ≤ m + w.2.2.2.1 → tree c last n w = tree c last m w
 | 0, _, _, h, h1, _ => by omega
 | _ + 1, 0, _, h, _, h2 => by omega
 | n + 1, m + 1, w, h, h1, h2 => by
  simp only [tree]
  split
  ·rfl
  ·refine congrArg _ (flatMap_congr' fun x hx => ?_)
   have := child_hop hx
   exact tree_fuel (by omega) (by omega) (by omega)
theorem bfs_perm {c : Cab} {last : Int} (hv : cabV c) : ∀ {n : Nat} {l : List Stp}, (∀ w ∈ l, wvH c w) → wtL l ≤ n → (bfs c last n l).Perm (l.flatMap (tree c last 7))
 | 0, [], _, _ => by simp [bfs]
 | 0, w :: r, _, h => by have := wt_pos w; simp only [wtL] at h; omega
 | n + 1, [], _, _ => by simp [bfs]
 | n + 1, w :: r, hl, h1 => by
  have hp := wt_pos w
  have hw := hl w (by simp)
  have hc := child_wt (c := c) hw.1
  simp only [wtL] at h1
  simp only [bfs, List.flatMap_cons]
  have e : tree c last 7 w = if last < w.1 then [] else w :: (childS c w).flatMap (tree c last 6) := rfl
  rw [e]
  split
  ·exact bfs_perm hv (fun x hx => hl x (by simp [hx])) (by omega)
  ·have ih := bfs_perm (last := last) hv (l := r ++ childS c w) (n := n) (fun x hx => app_H hv hl x hx) (by rw [wtL_append]; omega)
   rw [List.flatMap_append] at ih
   have e2 : (childS c w).flatMap (tree c last 7) = (childS c w).flatMap (tree c last 6) := flatMap_congr' fun x hx => by
    have h3 := child_hop hx
    have h4 := (child_H hv hw hx).1
    have := hw.1
    exact tree_fuel h4 (by omega) (by omega)
   rw [e2] at ih
   exact (ih.trans List.perm_append_comm).cons w
theorem waves_perm {c : Cab} {f : Flt} {win : Int} (h : fltV c f) : (wavesS c f win).Perm ((initS c f).flatMap (tree c (f.2.2.1 + win) 7)) := bfs_perm h.1 (initS_H h) (Nat.le_refl _)
theorem tree_len {c : Cab} {last : Int} : ∀ (n : Nat) (w : Stp), (tree c last n w).length + 1 ≤ 2 ^ n
 | 0, _ => by simp [tree]
 | n + 1, w => by
  simp only [tree]
  have hp : 0 < 2 ^ n := Nat.pow_pos (by omega)
  rw [Nat.pow_succ]
  split
  ·simp; omega
  ·have key : ∀ l : List Stp, (l.flatMap (tree c last n)).length + l.length ≤ l.length * 2 ^ n := by
    intro l
    induction l with
    | nil => simp
    | cons x l ih =>
     have := tree_len (c := c) (last := last) n x
     rw [List.flatMap_cons, List.length_append, List.length_cons, Nat.add_mul, Nat.one_mul]; omega
   have h1 := key (childS c w)
   have h2 := child_len c w
   have h3 : (childS c w).length * 2 ^ n ≤ (childS c w).length * 2 ^ n + (2 - (childS c w).length) * (2 ^ n - 1) := Nat.le_add_right _ _
   simp only [List.length_cons]
   have : (childS c w).length = 0 ∨ (childS c w).length = 1 ∨ (childS c w).length = 2 := by omega
   rcases this with e | e | e <;> rw [e] at h1 <;> omega
theorem waves_len {c : Cab} {f : Flt} {win : Int} (h : fltV c f) : (wavesS c f win).length ≤ 254 := by
 rw [(waves_perm h).length_eq]
 simp only [initS, List.flatMap_cons, List.flatMap_nil, List.append_nil, List.length_append]
 have h1 := tree_len (c := c) (last := f.2.2.1 + win) 7 (f.2.2.1 + f.2.1, f.1, false, 0, f.2.2.2 * 262144)
 have h2 := tree_len (c := c) (last := f.2.2.1 + win) 7 (f.2.2.1 + ((c.1.getD f.1.toNat (0, 0)).2 - f.2.1), f.1 + 1, true, 0, f.2.2.2 * 262144)
 omega
theorem sumsM_len (c : Cab) (l : List Stp) (h : ∀ w ∈ l, wvH c w) : (sumsM c l).length ≤ l.length := (sumsM_ok h).1
theorem arrS_len {c : Cab} {f : Flt} {win : Int} (h : fltV c f) : (arrS c f win).length ≤ 254 := by
 unfold arrS
 rw [(sortA_perm _).length_eq, List.length_map]
 have := sumsM_len c (wavesS c f win) fun w hw => ((waves_H h).1 w hw).1
 have := waves_len (win := win) h
 omega
def sg (d : Bool) : Int := bif d then 1 else -1
def posC (c : Cab) (b : Int) : Int := (sumS (c.1.take b.toNat)).2
theorem pos_succ {c : Cab} {b : Int} (h0 : 0 ≤ b) (h1 : b < c.1.length) : posC c (b + 1) = posC c b + (c.1.getD b.toNat (0, 0)).2 := by
 unfold posC
 rw [show (b + 1).toNat = b.toNat + 1 by omega, sumS_take (by omega)]
theorem pos_zero (c : Cab) : posC c 0 = 0 := rfl
theorem pos_full (c : Cab) : posC c c.1.length = (sumS c.1).2 := by
 unfold posC
 rw [Int.toNat_natCast, List.take_length]
theorem sent_pos {c : Cab} {w x : Stp} {r : Bool} {k : Int} (hv : cabV c) (h : x ∈ sentS c w r k) : (x.2.2.1 = r ∧ x.2.1 = w.2.1 + sg r ∧ x.2.2.2.2 = hgt w k ∧ hgt w k ≠ 0) ∧ (0 ≤ x.2.1 ∧ x.2.1 ≤ c.1.length) ∧ ∃ δ, (1 ≤ δ ∧ δ ≤ 64) ∧ x.1 = w.1 + δ ∧ posC c x.2.1 = posC c w.2.1 + sg r * δ := by
 unfold sentS at h
 split at h
 ·simp at h
 rename_i hn
 simp only [List.mem_singleton] at h
 have b := hv.2.2.1 _ (getD_mem (d := (0, 0)) (l := c.1) (k := (aheadS w r).2.toNat) (by omega))
 subst h
 unfold aheadS at hn b ⊢
 cases r
 ·simp only [cond_false] at hn b ⊢
  refine ⟨⟨trivial, by unfold sg; simp only [cond_false]; omega, trivial, fun e => hn (.inl e)⟩, by omega, _, ⟨b.2.2.1, b.2.2.2⟩, rfl, ?_⟩
  have := pos_succ (c := c) (b := w.2.1 - 1) (by omega) (by omega)
  rw [show w.2.1 - 1 + 1 = w.2.1 by omega] at this
  unfold sg; simp only [cond_false]; omega
 ·simp only [cond_true] at hn b ⊢
  refine ⟨⟨trivial, by unfold sg; simp only [cond_true], trivial, fun e => hn (.inl e)⟩, by omega, _, ⟨b.2.2.1, b.2.2.2⟩, rfl, ?_⟩
  have := pos_succ (c := c) (b := w.2.1) (by omega) (by omega)
  unfold sg; simp only [cond_true]; omega
theorem child_sent {c : Cab} {w x : Stp} (h : x ∈ childS c w) : ∃ r k, x ∈ sentS c w r k := by
 unfold childS at h
 split at h
 ·simp at h
 ·split at h
  ·exact ⟨_, _, h⟩
  ·split at h
   ·exact ⟨_, _, h⟩
   ·rcases List.mem_append.1 h with h | h
    ·exact ⟨_, _, h⟩
    ·exact ⟨_, _, h⟩
theorem child_tick {c : Cab} {w x : Stp} (hv : cabV c) (h : x ∈ childS c w) : w.1 < x.1 := by
 obtain ⟨r, k, h⟩ := child_sent h
 obtain ⟨_, _, δ, hd, e, _⟩ := sent_pos hv h
 omega
theorem tree_tick {c : Cab} {last : Int} (hv : cabV c) : ∀ {n : Nat} {w x : Stp}, x ∈ tree c last n w → w.1 ≤ x.1 ∧ x.1 ≤ last
 | 0, _, _, h => by simp [tree] at h
 | n + 1, w, x, h => by
  simp only [tree] at h
  split at h
  ·simp at h
  ·rename_i hl
   rcases List.mem_cons.1 h with rfl | h
   ·omega
   ·obtain ⟨y, hy, h⟩ := List.mem_flatMap.1 h
    have h1 := child_tick hv hy
    have h2 := tree_tick hv h
    omega
theorem tree_window {c : Cab} {last last' : Int} (hv : cabV c) (hl : last ≤ last') : ∀ (n : Nat) (w : Stp), tree c last n w = (tree c last' n w).filter fun x => decide (x.1 ≤ last)
 | 0, _ => rfl
 | n + 1, w => by
  simp only [tree]
  by_cases h1 : last < w.1
  ·rw [if_pos h1]
   symm
   rw [List.filter_eq_nil_iff]
   intro x hx
   split at hx
   ·simp at hx
   ·rcases List.mem_cons.1 hx with rfl | hx
    ·simp; omega
    ·obtain ⟨y, hy, hx⟩ := List.mem_flatMap.1 hx
     have := child_tick hv hy
     have := tree_tick hv hx
     simp; omega
  ·rw [if_neg h1, if_neg (by omega), List.filter_cons, if_pos (by simp; omega)]
   congr 1
   rw [List.filter_flatMap]
   exact flatMap_congr' fun x _ => tree_window hv hl n x
def slk (T p : Int) (c : Cab) (d : Bool) (w : Stp) : Int := w.1 - T - sg d * (posC c w.2.1 - p)
theorem sent_slk {T p : Int} {c : Cab} {w x : Stp} {d r : Bool} {k : Int} (hv : cabV c) (h : x ∈ sentS c w r k) : slk T p c d w ≤ slk T p c d x ∧ (r = d → slk T p c d x = slk T p c d w) ∧ (r ≠ d → slk T p c d w < slk T p c d x) := by
 obtain ⟨_, _, δ, hd, e1, e2⟩ := sent_pos hv h
 unfold slk
 rw [e1, e2]
 generalize posC c w.2.1 = q
 cases d <;> cases r <;> simp only [sg, cond_true, cond_false, ne_eq, not_true_eq_false, not_false_eq_true, reduceCtorEq, forall_const, false_implies, and_true, true_and] <;> omega
theorem child_slk {T p : Int} {c : Cab} {w x : Stp} {d : Bool} (hv : cabV c) (h : x ∈ childS c w) : slk T p c d w ≤ slk T p c d x := by
 obtain ⟨r, k, h⟩ := child_sent h
 exact (sent_slk hv h).1
theorem tree_slk {T p : Int} {c : Cab} {last : Int} {d : Bool} (hv : cabV c) : ∀ {n : Nat} {w x : Stp}, x ∈ tree c last n w → slk T p c d w ≤ slk T p c d x
 | 0, _, _, h => by simp [tree] at h
 | n + 1, w, x, h => by
  simp only [tree] at h
  split at h
  ·simp at h
  ·rcases List.mem_cons.1 h with rfl | h
   ·omega
   ·obtain ⟨y, hy, h⟩ := List.mem_flatMap.1 h
    have h1 := child_slk (T := T) (p := p) (d := d) hv hy
    have h2 := tree_slk (T := T) (p := p) (d := d) hv h
    omega
def endD (c : Cab) (d : Bool) : Int := bif d then c.1.length else 0
def strD (d : Bool) : ByteArray := bif d then sB else sA
def tickD (T p : Int) (c : Cab) (d : Bool) : Int := T + sg d * (posC c (endD c d) - p)
theorem sAB : sA ≠ sB := by
 intro h
 have := congrArg (fun x => x.data.toList) h
 revert this; decide
theorem hit_end {c : Cab} {d : Bool} {t : Int} {x : Stp} (hv : cabV c) (h : hitK c.1.length (t, strD d) x) : x.2.1 = endD c d ∧ x.1 = t := by
 obtain ⟨h1, h2, h3⟩ := h
 refine ⟨?_, h2⟩
 have hn := hv.1
 unfold endW at h3
 unfold strD at h3
 unfold endD
 cases d
 ·simp only [cond_false] at h3 ⊢
  by_cases e : x.2.1 = 0
  ·exact e
  ·rw [if_neg e] at h3; exact absurd h3.symm sAB
 ·simp only [cond_true] at h3 ⊢
  by_cases e : x.2.1 = 0
  ·rw [if_pos e] at h3; exact absurd h3 sAB
  ·exact h1.resolve_left e
theorem end_hit {c : Cab} {d : Bool} {x : Stp} (hv : cabV c) (h : x.2.1 = endD c d) : hitK c.1.length (x.1, strD d) x := by
 have hn := hv.1
 refine ⟨?_, rfl, ?_⟩
 ·unfold endD at h
  cases d
  ·exact .inl h
  ·exact .inr h
 ·unfold endD at h; unfold endW strD
  cases d
  ·simp only [cond_false] at h ⊢; rw [if_pos h]
  ·simp only [cond_true] at h ⊢; rw [if_neg (by omega)]
theorem hit_slk {T p : Int} {c : Cab} {d : Bool} {x : Stp} (h : x.2.1 = endD c d) : x.1 = tickD T p c d + slk T p c d x := by
 unfold slk tickD; rw [h]; omega
theorem late_none {T p : Int} {c : Cab} {d : Bool} {last : Int} {n : Nat} {w : Stp} (hv : cabV c) (h : 0 < slk T p c d w) : ¬ hasK c.1.length (tickD T p c d, strD d) (tree c last n w) := by
 rintro ⟨x, hx, hk⟩
 obtain ⟨h1, h2⟩ := hit_end hv hk
 have h3 := tree_slk (T := T) (p := p) (d := d) hv hx
 have h4 := hit_slk (T := T) (p := p) h1
 omega
def chain (c : Cab) (d : Bool) : Nat → Int → Int → Int
 | 0, _, h => h
 | m + 1, b, h => chain c d m (b + sg d) ((h * (8 + sg d * c.2.1.getD (b - 1).toNat 0)).tdiv 8)
theorem chain_zero (c : Cab) (d : Bool) : ∀ (m : Nat) (b : Int), chain c d m b 0 = 0
 | 0, _ => rfl
 | m + 1, b => by simp only [chain]; rw [Int.zero_mul]; exact chain_zero c d m _
theorem facW_sg (c : Cab) (w : Stp) : facW c w = sg w.2.2.1 * c.2.1.getD (w.2.1 - 1).toNat 0 := by
 unfold facW sg
 cases w.2.2.1
 ·simp only [cond_false]; omega
 ·simp only [cond_true]; omega
theorem hasK_cons {n : Int} {k : Key} {l : List Stp} {w : Stp} : hasK n k (w :: l) ↔ hitK n k w ∨ hasK n k l := by
 constructor
 ·rintro ⟨x, hx, hk⟩
  rcases List.mem_cons.1 hx with rfl | hx
  ·exact .inl hk
  ·exact .inr ⟨x, hx, hk⟩
 ·rintro (hk | ⟨x, hx, hk⟩)
  ·exact ⟨w, by simp, hk⟩
  ·exact ⟨x, by simp [hx], hk⟩
theorem hasK_append {n : Int} {k : Key} {l r : List Stp} : hasK n k (l ++ r) ↔ hasK n k l ∨ hasK n k r := by
 constructor
 ·rintro ⟨x, hx, hk⟩
  rcases List.mem_append.1 hx with hx | hx
  ·exact .inl ⟨x, hx, hk⟩
  ·exact .inr ⟨x, hx, hk⟩
 ·rintro (⟨x, hx, hk⟩ | ⟨x, hx, hk⟩)
  ·exact ⟨x, by simp [hx], hk⟩
  ·exact ⟨x, by simp [hx], hk⟩
theorem hasK_flat {n : Int} {k : Key} {l : List Stp} {g : Stp → List Stp} (h : ∀ x ∈ l, ¬ hasK n k (g x)) : ¬ hasK n k (l.flatMap g) := by
 rintro ⟨y, hy, hk⟩
 obtain ⟨x, hx, hy⟩ := List.mem_flatMap.1 hy
 exact h x hx ⟨y, hy, hk⟩
theorem direct_tree {T p last : Int} {c : Cab} {d : Bool} (hv : cabV c) : ∀ (m n : Nat) (w : Stp), m < n → w.2.2.1 = d → w.2.1 + sg d * m = endD c d → (bif d then 1 ≤ w.2.1 else w.2.1 < c.1.length) → (0 ≤ w.2.1 ∧ w.2.1 ≤ c.1.length) → (0 ≤ w.2.2.2.1 ∧ w.2.2.2.1 + m ≤ 6) → slk T p c d w = 0 → tickD T p c d ≤ last → w.2.2.2.2 ≠ 0 →
  (hasK c.1.length (tickD T p c d, strD d) (tree c last n w) ↔ chain c d m w.2.1 w.2.2.2.2 ≠ 0) ∧ sumK c.1.length (tickD T p c d, strD d) (tree c last n w) = chain c d m w.2.1 w.2.2.2.2
 | _, 0, _, hn, _, _, _, _, _, _, _, _ => by omega
 | 0, n + 1, w, _, hr, he, hs, hb, hh, h0, hl, hz => by
  have he : w.2.1 = endD c d := by
   have := he
   rw [show ((0 : Nat) : Int) = 0 from rfl, Int.mul_zero] at this; omega
  have ht := hit_slk (T := T) (p := p) he
  rw [h0, Int.add_zero] at ht
  have hit := end_hit hv he
  rw [ht] at hit
  simp only [tree, chain]
  rw [if_neg (by omega)]
  have hno : ¬ hasK c.1.length (tickD T p c d, strD d) ((childS c w).flatMap (tree c last n)) := by
   refine hasK_flat fun x hx => late_none hv ?_
   have hx : ∃ k, x ∈ sentS c w (!d) k := by
    unfold childS at hx
    split at hx
    ·simp at hx
    ·split at hx
     ·rename_i e
      cases d
      ·exact ⟨_, hx⟩
      ·exfalso
       have hs : (1 : Int) ≤ w.2.1 := hs
       omega
     ·rename_i e
      split at hx
      ·rename_i e2
       cases d
       ·exfalso; exact e he
       ·exact ⟨_, hx⟩
      ·rename_i e2
       exfalso
       cases d
       ·exact e he
       ·exact e2 he
   obtain ⟨k, hx⟩ := hx
   have := (sent_slk (T := T) (p := p) (d := d) hv hx).2.2 (by cases d <;> decide)
   omega
  rw [hasK_cons, sumK, if_pos hit, sumK_none hno, Int.add_zero]
  exact ⟨⟨fun _ => hz, fun _ => .inl hit⟩, rfl⟩
 | m + 1, n + 1, w, hn, hr, he, hs, hb, hh, h0, hl, hz => by
  have hne : w.2.1 ≠ 0 ∧ w.2.1 ≠ c.1.length := by
   unfold endD at he; unfold sg at he
   cases d
   ·simp only [cond_false] at he hs
    have hs : w.2.1 < c.1.length := hs
    omega
   ·simp only [cond_true] at he hs
    have hs : 1 ≤ w.2.1 := hs
    omega
  have hnot : ¬ hitK c.1.length (tickD T p c d, strD d) w := fun q => q.1.elim hne.1 hne.2
  have hlt : ¬ last < w.1 := by
   have h1 : w.1 ≤ tickD T p c d := by
    have hmono : ∀ (k : Nat) (b : Int), 0 ≤ b → b + k ≤ c.1.length → posC c b ≤ posC c (b + k) := by
     intro k
     induction k with
     | zero => intro b _ _; rw [show b + ((0 : Nat) : Int) = b by omega]; omega
     | succ k ih =>
      intro b h1 h2
      have := ih b h1 (by omega)
      have h3 := pos_succ (c := c) (b := b + k) (by omega) (by omega)
      have b3 := hv.2.2.1 _ (getD_mem (d := (0, 0)) (l := c.1) (k := (b + k).toNat) (by omega))
      rw [show b + ((k + 1 : Nat) : Int) = b + k + 1 by omega]; omega
    unfold slk at h0
    unfold tickD
    cases d
    ·unfold endD sg at *
     simp only [cond_false] at *
     have := hmono (m + 1) 0 (by omega) (by omega)
     rw [show (0 : Int) + ((m + 1 : Nat) : Int) = w.2.1 by omega] at this
     omega
    ·unfold endD sg at *
     simp only [cond_true] at *
     have := hmono (m + 1) w.2.1 (by omega) (by omega)
     rw [show w.2.1 + ((m + 1 : Nat) : Int) = c.1.length by omega] at this
     omega
   omega
  simp only [tree, chain]
  rw [if_neg hlt]
  have ec : childS c w = sentS c w d (8 + sg d * c.2.1.getD (w.2.1 - 1).toNat 0) ++ sentS c w (!d) (sg d * c.2.1.getD (w.2.1 - 1).toNat 0) := by
   unfold childS
   rw [if_neg (by omega), if_neg hne.1, if_neg hne.2, facW_sg, hr]
  rw [ec, List.flatMap_append]
  have hno : ¬ hasK c.1.length (tickD T p c d, strD d) ((sentS c w (!d) (sg d * c.2.1.getD (w.2.1 - 1).toNat 0)).flatMap (tree c last n)) := by
   refine hasK_flat fun x hx => late_none hv ?_
   have := (sent_slk (T := T) (p := p) (d := d) hv hx).2.2 (by cases d <;> decide)
   omega
  rw [hasK_cons, hasK_append, sumK, if_neg hnot, sumK_append, sumK_none hno, Int.zero_add, Int.add_zero]
  have hor : ∀ q r : Prop, ¬ q → ¬ r → ∀ s : Prop, ((q ∨ s ∨ r) ↔ s) := fun q r h1 h2 s => ⟨fun h => h.elim (absurd · h1) (·.elim id (absurd · h2)), fun h => .inr (.inl h)⟩
  rw [hor _ _ hnot hno]
  have hH : (w.2.2.2.2 * (8 + sg d * c.2.1.getD (w.2.1 - 1).toNat 0)).tdiv 8 = hgt w (8 + sg d * c.2.1.getD (w.2.1 - 1).toNat 0) := rfl
  rw [hH]
  by_cases hz2 : hgt w (8 + sg d * c.2.1.getD (w.2.1 - 1).toNat 0) = 0
  ·have es : sentS c w d (8 + sg d * c.2.1.getD (w.2.1 - 1).toNat 0) = [] := by unfold sentS; rw [if_pos (.inl hz2)]
   rw [es, hz2, chain_zero]
   exact ⟨⟨fun ⟨x, hx, _⟩ => by simp at hx, fun h => absurd rfl h⟩, rfl⟩
  ·have es : ∃ x, sentS c w d (8 + sg d * c.2.1.getD (w.2.1 - 1).toNat 0) = [x] := by
    unfold sentS
    rw [if_neg]
    ·exact ⟨_, rfl⟩
    ·unfold aheadS
     cases d
     ·simp only [cond_false]; omega
     ·simp only [cond_true]; omega
   obtain ⟨x, es⟩ := es
   have hx : x ∈ sentS c w d (8 + sg d * c.2.1.getD (w.2.1 - 1).toNat 0) := by rw [es]; simp
   obtain ⟨⟨x1, x2, x3, _⟩, x4, _⟩ := sent_pos hv hx
   have x5 := sent_hop hx
   have x6 := (sent_slk (T := T) (p := p) (d := d) hv hx).2.1 rfl
   have ih := direct_tree (T := T) (p := p) (last := last) (d := d) hv m n x (by omega) x1 (by
    rw [x2]
    have : sg d * ((m + 1 : Nat) : Int) = sg d * m + sg d := by rw [Int.natCast_succ, Int.mul_add, Int.mul_one]
    omega) (by
    rw [x2]
    cases d
    ·show w.2.1 + sg false < c.1.length
     unfold sg; simp only [cond_false]
     have hs : w.2.1 < c.1.length := hs
     omega
    ·show 1 ≤ w.2.1 + sg true
     unfold sg; simp only [cond_true]
     have hs : 1 ≤ w.2.1 := hs
     omega) x4 (by omega) (by omega) hl (by rw [x3]; exact hz2)
   rw [es, List.flatMap_cons, List.flatMap_nil, List.append_nil, ← x2, ← x3]
   exact ih
set_option maxHeartbeats 20000000
def facD (c : Cab) (d : Bool) (b : Int) : Int := 8 + sg d * c.2.1.getD (b - 1).toNat 0
def prodC (c : Cab) (d : Bool) : Nat → Int → Int
 | 0, _ => 1
 | m + 1, b => facD c d b * prodC c d m (b + sg d)
theorem chain_exact (c : Cab) (d : Bool) : ∀ (m : Nat) (b h : Int), chain c d m b (h * 8 ^ m) = h * prodC c d m b
 | 0, _, h => by simp [chain, prodC]
 | m + 1, b, h => by
  simp only [chain, prodC]
  have e : (h * 8 ^ (m + 1) * (8 + sg d * c.2.1.getD (b - 1).toNat 0)).tdiv 8 = h * facD c d b * 8 ^ m := by
   have : h * 8 ^ (m + 1) * (8 + sg d * c.2.1.getD (b - 1).toNat 0) = 8 * (h * facD c d b * 8 ^ m) := by
    unfold facD; rw [Int.pow_succ]; grind
   rw [this, Int.mul_tdiv_cancel_left _ (by decide)]
  rw [e, chain_exact c d m, Int.mul_assoc]
theorem prodC_zero {c : Cab} {d : Bool} : ∀ {m : Nat} {b : Int}, prodC c d m b = 0 → ∃ i : Nat, i < m ∧ facD c d (b + sg d * i) = 0
 | 0, _, h => by simp [prodC] at h
 | m + 1, b, h => by
  simp only [prodC] at h
  rcases Int.mul_eq_zero.1 h with h | h
  ·exact ⟨0, by omega, by rw [show b + sg d * ((0 : Nat) : Int) = b by simp]; exact h⟩
  ·obtain ⟨i, hi, h⟩ := prodC_zero h
   refine ⟨i + 1, by omega, ?_⟩
   rw [show b + sg d * ((i + 1 : Nat) : Int) = b + sg d + sg d * i by rw [Int.natCast_succ, Int.mul_add, Int.mul_one]; omega]
   exact h
def near (d : Bool) (j : Int) (w : Stp) : Prop := 1 ≤ sg d * (j - w.2.1) ∨ (w.2.1 = j ∧ w.2.2.1 = d)
theorem near_child {c : Cab} {d : Bool} {j : Int} {w x : Stp} (hv : cabV c) (hj : 1 ≤ j ∧ j < c.1.length) (hz : facD c d j = 0) (hw : near d j w) (h : x ∈ childS c w) : near d j x := by
 have far : ∀ r k, x ∈ sentS c w r k → 1 ≤ sg d * (j - w.2.1) → near d j x := fun r k hx hn => by
  obtain ⟨⟨x1, x2, _⟩, _⟩ := sent_pos hv hx
  unfold near
  rw [x1, x2]
  cases d <;> cases r <;> simp only [sg, cond_true, cond_false, reduceCtorEq, and_false, or_false, and_true] at * <;> omega
 rcases hw with hw | ⟨h1, h2⟩
 ·obtain ⟨r, k, hx⟩ := child_sent h
  exact far r k hx hw
 ·unfold childS at h
  split at h
  ·simp at h
  ·rw [if_neg (by omega), if_neg (by omega)] at h
   rcases List.mem_append.1 h with h | h
   ·exfalso
    have := (sent_pos hv h).1.2.2.2
    refine this ?_
    have e : 8 + facW c w = 0 := by
     rw [facW_sg, h1, h2]; exact hz
    unfold hgt
    rw [e, Int.mul_zero]; rfl
   ·obtain ⟨⟨x1, x2, _⟩, _⟩ := sent_pos hv h
    unfold near
    rw [x1, x2, h2, h1]
    cases d <;> simp only [sg, cond_true, cond_false, Bool.not_true, Bool.not_false, reduceCtorEq, and_false, or_false] <;> omega
theorem near_tree {c : Cab} {last : Int} {d : Bool} {j : Int} (hv : cabV c) (hj : 1 ≤ j ∧ j < c.1.length) (hz : facD c d j = 0) : ∀ {n : Nat} {w x : Stp}, near d j w → x ∈ tree c last n w → near d j x
 | 0, _, _, _, h => by simp [tree] at h
 | n + 1, w, x, hw, h => by
  simp only [tree] at h
  split at h
  ·simp at h
  ·rcases List.mem_cons.1 h with rfl | h
   ·exact hw
   ·obtain ⟨y, hy, h⟩ := List.mem_flatMap.1 h
    exact near_tree hv hj hz (near_child hv hj hz hw hy) h
def placeP (c : Cab) (f : Flt) : Int := posC c f.1 + f.2.1
def tkD (c : Cab) (f : Flt) (d : Bool) : Int := tickD f.2.2.1 (placeP c f) c d
def stD (f : Flt) (d : Bool) : Int := bif d then f.1 + 1 else f.1
def mD (c : Cab) (f : Flt) (d : Bool) : Nat := bif d then c.1.length - (f.1.toNat + 1) else f.1.toNat
def prD (c : Cab) (f : Flt) (d : Bool) : Int := prodC c d (mD c f d) (stD f d)
def htD (c : Cab) (f : Flt) (d : Bool) : Int := chain c d (mD c f d) (stD f d) (f.2.2.2 * 262144)
def wD (c : Cab) (f : Flt) (d : Bool) : Stp := bif d then (f.2.2.1 + ((c.1.getD f.1.toNat (0, 0)).2 - f.2.1), f.1 + 1, true, 0, f.2.2.2 * 262144) else (f.2.2.1 + f.2.1, f.1, false, 0, f.2.2.2 * 262144)
theorem mD_le {c : Cab} {f : Flt} {d : Bool} (h : fltV c f) : mD c f d ≤ 5 := by
 obtain ⟨⟨_, v2, _⟩, g1, _⟩ := h
 unfold mD
 cases d
 ·simp only [cond_false]; omega
 ·simp only [cond_true]; omega
theorem pow8_div {m : Nat} (h : m ≤ 5) : (262144 : Int).tdiv (8 ^ m) * 8 ^ m = 262144 ∧ 1 ≤ (262144 : Int).tdiv (8 ^ m) := by
 have : ∀ m, m < 6 → (262144 : Int).tdiv (8 ^ m) * 8 ^ m = 262144 ∧ 1 ≤ (262144 : Int).tdiv (8 ^ m) := by decide
 exact this m (by omega)
theorem htD_eq {c : Cab} {f : Flt} {d : Bool} (h : fltV c f) : htD c f d = f.2.2.2 * (262144 : Int).tdiv (8 ^ mD c f d) * prD c f d := by
 unfold htD prD
 rw [← chain_exact, Int.mul_assoc, (pow8_div (mD_le h)).1]
theorem htD_zero {c : Cab} {f : Flt} {d : Bool} (h : fltV c f) : htD c f d = 0 ↔ prD c f d = 0 := by
 rw [htD_eq h]
 have h1 := (pow8_div (mD_le (d := d) h)).2
 have h2 := h.2.2.2.2.2
 constructor
 ·intro e
  rcases Int.mul_eq_zero.1 e with e | e
  ·rcases Int.mul_eq_zero.1 e with e | e
   ·exact absurd e h2
   ·omega
  ·exact e
 ·intro e; rw [e, Int.mul_zero]
theorem tick_bd {c : Cab} {f : Flt} {d : Bool} (h : fltV c f) : f.2.2.1 + 1 ≤ tkD c f d ∧ tkD c f d ≤ f.2.2.1 + 384 := by
 obtain ⟨hv, g1, g2, _⟩ := h
 have b := sumS_bd hv.2.2.1
 have b1 := sumS_bd (take_V hv.2.2.1 (f.1.toNat + 1))
 have b0 := sumS_bd (take_V hv.2.2.1 f.1.toNat)
 have e1 := sumS_take (l := c.1) (k := f.1.toNat) (by omega)
 have hd : ∃ r, (sumS c.1).2 = (sumS (c.1.take (f.1.toNat + 1))).2 + r ∧ 0 ≤ r := by
  refine ⟨(sumS (c.1.drop (f.1.toNat + 1))).2, ?_, ?_⟩
  ·have : ∀ l r : List (Int × Int), (sumS (l ++ r)).2 = (sumS l).2 + (sumS r).2 := fun l r => by
    induction l with
    | nil => simp [sumS]
    | cons x l ih => simp only [List.cons_append, sumS, ih]; omega
   rw [← this, List.take_append_drop]
  ·have := sumS_bd (l := c.1.drop (f.1.toNat + 1)) fun x hx => hv.2.2.1 x (List.mem_of_mem_drop hx)
   omega
 obtain ⟨r, hr, hr0⟩ := hd
 have e2 : (sumS (c.1.take (f.1.toNat + 1))).2 = (sumS (c.1.take f.1.toNat)).2 + (c.1.getD f.1.toNat (0, 0)).2 := by rw [e1]
 have hl := hv.2.1
 unfold tkD tickD placeP
 cases d
 ·unfold endD sg; simp only [cond_false]; rw [pos_zero]
  unfold posC; omega
 ·unfold endD sg; simp only [cond_true]; rw [pos_full]
  unfold posC; omega
theorem direct_init {c : Cab} {f : Flt} {d : Bool} {win : Int} (h : fltV c f) (hw : 384 ≤ win) :
  (hasK c.1.length (tkD c f d, strD d) (wavesS c f win) ↔ htD c f d ≠ 0) ∧ sumK c.1.length (tkD c f d, strD d) (wavesS c f win) = htD c f d := by
 have hp := waves_perm (win := win) h
 rw [hasK_perm hp, sumK_perm hp]
 have hi := initS_H h
 have hv := h.1
 obtain ⟨_, g1, g2, g3, g4, g5⟩ := id h
 have ht := tick_bd (d := d) h
 have ei : initS c f = [wD c f false, wD c f true] := rfl
 rw [ei, List.flatMap_cons, List.flatMap_cons, List.flatMap_nil, List.append_nil, hasK_append, sumK_append]
 have hz : f.2.2.2 * 262144 ≠ 0 := by omega
 have ps := pos_succ (c := c) (b := f.1) (by omega) (by omega)
 have s0 : slk f.2.2.1 (placeP c f) c false (wD c f false) = 0 := by
  unfold slk placeP wD sg; simp only [cond_false]; omega
 have s1 : slk f.2.2.1 (placeP c f) c true (wD c f true) = 0 := by
  unfold slk placeP wD sg; simp only [cond_true]; rw [ps]; omega
 have s2 : 0 < slk f.2.2.1 (placeP c f) c true (wD c f false) := by
  unfold slk placeP wD sg; simp only [cond_true, cond_false]; omega
 have s3 : 0 < slk f.2.2.1 (placeP c f) c false (wD c f true) := by
  unfold slk placeP wD sg; simp only [cond_true, cond_false]; rw [ps]; omega
 have hm := mD_le (d := d) h
 have hs : (wD c f d).2.2.1 = d ∧ (wD c f d).2.1 = stD f d ∧ (wD c f d).2.2.2.2 = f.2.2.2 * 262144 ∧ (wD c f d).2.2.2.1 = 0 := by
  cases d <;> exact ⟨rfl, rfl, rfl, rfl⟩
 have hsl : slk f.2.2.1 (placeP c f) c d (wD c f d) = 0 := by cases d <;> assumption
 have key := direct_tree (T := f.2.2.1) (p := placeP c f) (last := f.2.2.1 + win) (d := d) hv (mD c f d) 7 (wD c f d) (by omega) hs.1 (by
  rw [hs.2.1]
  unfold stD mD endD sg
  cases d
  ·simp only [cond_false]; omega
  ·simp only [cond_true]; omega) (by
  rw [hs.2.1]
  unfold stD
  cases d
  ·show f.1 < _; omega
  ·show 1 ≤ f.1 + 1; omega) (by
  rw [hs.2.1]
  unfold stD
  cases d
  ·simp only [cond_false]; omega
  ·simp only [cond_true]; omega) (by rw [hs.2.2.2]; omega) hsl (by unfold tkD at ht; omega) (by rw [hs.2.2.1]; exact hz)
 rw [hs.2.1, hs.2.2.1] at key
 have kk : ∀ q : Prop, ¬ q → ∀ s : Prop, ((q ∨ s) ↔ s) ∧ ((s ∨ q) ↔ s) := fun q h1 s => ⟨⟨fun h => h.elim (absurd · h1) id, .inr⟩, ⟨fun h => h.elim id (absurd · h1), .inl⟩⟩
 cases d
 ·have no := late_none (last := f.2.2.1 + win) (n := 7) hv s3
  show (_ ∨ hasK c.1.length (tickD f.2.2.1 (placeP c f) c false, strD false) (tree c (f.2.2.1 + win) 7 (wD c f true)) ↔ _) ∧ _ + sumK c.1.length (tickD f.2.2.1 (placeP c f) c false, strD false) (tree c (f.2.2.1 + win) 7 (wD c f true)) = _
  rw [(kk _ no _).2, sumK_none no, Int.add_zero]
  exact key
 ·have no := late_none (last := f.2.2.1 + win) (n := 7) hv s2
  show (hasK c.1.length (tickD f.2.2.1 (placeP c f) c true, strD true) (tree c (f.2.2.1 + win) 7 (wD c f false)) ∨ _ ↔ _) ∧ sumK c.1.length (tickD f.2.2.1 (placeP c f) c true, strD true) (tree c (f.2.2.1 + win) 7 (wD c f false)) + _ = _
  rw [(kk _ no _).1, sumK_none no, Int.zero_add]
  exact key
theorem waves_slk {c : Cab} {f : Flt} {d : Bool} {win : Int} (h : fltV c f) {x : Stp} (hx : x ∈ wavesS c f win) : 0 ≤ slk f.2.2.1 (placeP c f) c d x := by
 have hx := (waves_perm h).mem_iff.1 hx
 obtain ⟨y, hy, hx⟩ := List.mem_flatMap.1 hx
 have h1 := tree_slk (T := f.2.2.1) (p := placeP c f) (d := d) h.1 hx
 obtain ⟨hv, g1, g2, _⟩ := h
 have ps := pos_succ (c := c) (b := f.1) (by omega) (by omega)
 have : 0 ≤ slk f.2.2.1 (placeP c f) c d y := by
  simp only [initS, List.mem_cons, List.not_mem_nil, or_false] at hy
  rcases hy with rfl | rfl
  ·unfold slk placeP sg
   cases d <;> simp only [cond_true, cond_false] <;> omega
  ·unfold slk placeP sg
   dsimp only
   rw [ps]
   cases d <;> simp only [cond_true, cond_false] <;> omega
 omega
theorem waves_none {c : Cab} {f : Flt} {d : Bool} {win : Int} (h : fltV c f) (hz : htD c f d = 0) (t : Int) : ¬ hasK c.1.length (t, strD d) (wavesS c f win) := by
 obtain ⟨i, hi, hf⟩ := prodC_zero ((htD_zero h).1 hz)
 obtain ⟨hv, g1, g2, _⟩ := id h
 have hj : 1 ≤ stD f d + sg d * i ∧ stD f d + sg d * i < c.1.length := by
  unfold mD at hi
  unfold stD sg
  cases d
  ·simp only [cond_false] at hi ⊢; omega
  ·simp only [cond_true] at hi ⊢; omega
 rintro ⟨x, hx, hk⟩
 have hx := (waves_perm h).mem_iff.1 hx
 obtain ⟨y, hy, hx⟩ := List.mem_flatMap.1 hx
 have hn : near d (stD f d + sg d * i) y := by
  simp only [initS, List.mem_cons, List.not_mem_nil, or_false] at hy
  unfold near
  unfold stD sg at hj ⊢
  rcases hy with rfl | rfl
  ·cases d
   ·simp only [cond_false] at hj ⊢
    rcases Nat.eq_zero_or_pos i with h0 | h0
    ·exact .inr ⟨by omega, trivial⟩
    ·exact .inl (by omega)
   ·simp only [cond_true] at hj ⊢; omega
  ·cases d
   ·simp only [cond_false] at hj ⊢; omega
   ·simp only [cond_true] at hj ⊢
    rcases Nat.eq_zero_or_pos i with h0 | h0
    ·exact .inr ⟨by omega, trivial⟩
    ·exact .inl (by omega)
 have hn := near_tree hv hj hf hn hx
 obtain ⟨h1, _⟩ := hit_end hv hk
 unfold near at hn
 rw [h1] at hn
 unfold endD stD sg at *
 cases d
 ·simp only [cond_false] at *; omega
 ·simp only [cond_true] at *; omega
theorem isEnd_iff {e : ByteArray} {a : Arr} : isEnd e a = true ↔ a.2.1 = e := by
 unfold isEnd
 rw [beq_iff_eq]
 exact ⟨ba_ext, fun h => by rw [h]⟩
theorem find_first {l : List Arr} {e : ByteArray} {a : Arr} (hs : srtA l) (ha : a ∈ l) (he : a.2.1 = e) (hm : ∀ b ∈ l, b.2.1 = e → a.1 ≤ b.1) : findA e l = some a := by
 unfold findA
 cases hf : l.find? (isEnd e) with
 | none =>
  have := List.find?_eq_none.1 hf a ha
  exact absurd (isEnd_iff.2 he) this
 | some b =>
  obtain ⟨hb, as1, as2, hl, has⟩ := List.find?_eq_some_iff_append.1 hf
  have hb := isEnd_iff.1 hb
  have hbl : b ∈ l := List.mem_of_find?_eq_some hf
  rw [hl] at ha hs
  rcases List.mem_append.1 ha with ha | ha
  ·have := has a ha
   rw [isEnd_iff.2 he] at this; cases this
  ·rcases List.mem_cons.1 ha with rfl | ha
   ·rfl
   ·have h1 := (List.pairwise_cons.1 (List.pairwise_append.1 hs).2.1).1 a ha
    have h2 := hm b hbl hb
    exfalso
    rcases h1 with h1 | ⟨_, h1⟩
    ·omega
    ·rw [hb, he] at h1
     unfold bLt at h1; rw [bl_irrefl] at h1; cases h1
theorem find_arr {c : Cab} {f : Flt} {d : Bool} {win : Int} (h : fltV c f) (hw : 384 ≤ win) : findA (strD d) (arrS c f win) = if htD c f d = 0 then none else some (tkD c f d, strD d, htD c f d) := by
 have hd := direct_init (d := d) h hw
 split
 ·rename_i hz
  unfold findA
  rw [List.find?_eq_none]
  intro a ha q
  have q := isEnd_iff.1 q
  have := ((arrS_mem h a).1 ha).1
  rw [q] at this
  exact waves_none h hz _ this
 ·rename_i hz
  refine find_first (arrS_sorted h) ((arrS_mem h _).2 ⟨hd.1.2 hz, hd.2.symm⟩) rfl fun b hb he => ?_
  obtain ⟨x, hx, hk⟩ := ((arrS_mem h b).1 hb).1
  rw [he] at hk
  obtain ⟨h1, h2⟩ := hit_end h.1 hk
  have h3 := hit_slk (T := f.2.2.1) (p := placeP c f) h1
  have h4 := waves_slk (d := d) h hx
  show tkD c f d ≤ b.1
  unfold tkD; omega
theorem isA_sA : isA sA = true := by unfold isA; simp
theorem isB_sB : isB sB = true := by unfold isB; simp
theorem isB_sA : isB sA = false := by
 cases h : isB sA with
 | false => rfl
 | true => have := not_both sA h; rw [isA_sA] at this; cases this
theorem isA_sB : isA sB = false := not_both sB isB_sB
theorem facGo_snoc (e : ByteArray) (s : Int) : ∀ (l : List Int) (i : Nat) (r : Int) (p : Int × Int), facGo e s i (l ++ [r]) p = stepF e s (i + l.length) r (facGo e s i l p)
 | [], i, r, p => rfl
 | x :: l, i, r, p => by
  simp only [List.cons_append, facGo, List.length_cons]
  rw [facGo_snoc e s l (i + 1) r, show i + 1 + l.length = i + (l.length + 1) by omega]
theorem facGo_append (e : ByteArray) (s : Int) : ∀ (l r : List Int) (i : Nat) (p : Int × Int), facGo e s i (l ++ r) p = facGo e s (i + l.length) r (facGo e s i l p)
 | [], r, i, p => rfl
 | x :: l, r, i, p => by
  simp only [List.cons_append, facGo, List.length_cons]
  rw [facGo_append e s l r (i + 1), show i + 1 + l.length = i + (l.length + 1) by omega]
theorem stepA_lt {s r : Int} {i : Nat} {p : Int × Int} (h : (i : Int) < s) : stepF sA s i r p = (p.1 * (8 - r), p.2 * 8) := by
 unfold stepF; rw [isB_sA, isA_sA, decide_eq_true h]; rfl
theorem stepA_ge {s r : Int} {i : Nat} {p : Int × Int} (h : s ≤ (i : Int)) : stepF sA s i r p = p := by
 unfold stepF; rw [isB_sA, isA_sA, decide_eq_false (by omega : ¬ (i : Int) < s)]; rfl
theorem stepB_lt {s r : Int} {i : Nat} {p : Int × Int} (h : (i : Int) < s) : stepF sB s i r p = p := by
 unfold stepF; rw [isB_sB, isA_sB, decide_eq_false (by omega)]; rfl
theorem stepB_ge {s r : Int} {i : Nat} {p : Int × Int} (h : s ≤ (i : Int)) : stepF sB s i r p = (p.1 * (8 + r), p.2 * 8) := by
 unfold stepF; rw [isB_sB, decide_eq_true h]; rfl
theorem goA_id {s : Int} : ∀ (l : List Int) (i : Nat) (p : Int × Int), s ≤ (i : Int) → facGo sA s i l p = p
 | [], _, _, _ => rfl
 | x :: l, i, p, h => by simp only [facGo]; rw [stepA_ge h]; exact goA_id l (i + 1) p (by omega)
theorem goB_id {s : Int} : ∀ (l : List Int) (i : Nat) (p : Int × Int), (i : Int) + l.length ≤ s → facGo sB s i l p = p
 | [], _, _, _ => rfl
 | x :: l, i, p, h => by
  simp only [List.length_cons] at h
  simp only [facGo]; rw [stepB_lt (by omega)]; exact goB_id l (i + 1) p (by omega)
theorem goA_take {c : Cab} {s : Int} : ∀ k : Nat, (k : Int) ≤ s → k ≤ c.2.1.length → facGo sA s 0 (c.2.1.take k) (1, 1) = (prodC c false k k, 8 ^ k)
 | 0, _, _ => rfl
 | k + 1, h1, h2 => by
  rw [← take_snoc (d := (0 : Int)) (by omega), facGo_snoc, goA_take k (by omega) (by omega), Nat.zero_add, List.length_take, Nat.min_eq_left (by omega), stepA_lt (by omega)]
  simp only [prodC]
  have e1 : facD c false ((k + 1 : Nat) : Int) = 8 - c.2.1.getD k 0 := by
   unfold facD sg
   simp only [cond_false]
   rw [show (((k + 1 : Nat) : Int) - 1).toNat = k by omega]; omega
  have e2 : ((k + 1 : Nat) : Int) + sg false = (k : Int) := by unfold sg; simp only [cond_false]; omega
  rw [e1, e2, Int.mul_comm, Int.pow_succ]
theorem goB_drop {c : Cab} {s : Int} : ∀ (m k : Nat) (p : Int × Int), k + m = c.2.1.length → s ≤ (k : Int) → facGo sB s k (c.2.1.drop k) p = (p.1 * prodC c true m (k + 1), p.2 * 8 ^ m)
 | 0, k, p, h, _ => by rw [List.drop_of_length_le (by omega)]; simp [facGo, prodC]
 | m + 1, k, p, h, hs => by
  rw [drop_cons (d := (0 : Int)) (by omega)]
  simp only [facGo]
  rw [stepB_ge hs, goB_drop m (k + 1) _ (by omega) (by omega)]
  simp only [prodC]
  have e1 : facD c true ((k : Int) + 1) = 8 + c.2.1.getD k 0 := by
   unfold facD sg
   simp only [cond_true]
   rw [show ((k : Int) + 1 - 1).toNat = k by omega, Int.one_mul]
  have e2 : (k : Int) + 1 + sg true = ((k + 1 : Nat) : Int) + 1 := by unfold sg; simp only [cond_true]; omega
  rw [e1, e2, Int.mul_assoc, Int.mul_assoc, Int.pow_succ, Int.mul_comm 8]
theorem fact_prod {c : Cab} {f : Flt} {d : Bool} (h : fltV c f) : factS c f.1 (strD d) = (prD c f d, 8 ^ mD c f d) := by
 obtain ⟨hv, g1, g2, _⟩ := h
 have hj := hv.2.2.2.1
 unfold factS prD mD stD strD
 cases d
 ·simp only [cond_false]
  rw [← List.take_append_drop f.1.toNat c.2.1, facGo_append, goA_id _ _ _ (by rw [List.length_take, Nat.min_eq_left (by omega)]; omega), goA_take _ (by omega) (by omega), show ((f.1.toNat : Nat) : Int) = f.1 by omega]
 ·simp only [cond_true]
  rw [← List.take_append_drop f.1.toNat c.2.1, facGo_append, goB_id (c.2.1.take f.1.toNat) 0 _ (by rw [List.length_take, Nat.min_eq_left (by omega)]; omega), List.length_take, Nat.min_eq_left (by omega), Nat.zero_add, goB_drop (c.1.length - (f.1.toNat + 1)) _ _ (by omega) (by omega), show ((f.1.toNat : Nat) : Int) = f.1 by omega, Int.one_mul, Int.one_mul]
theorem height_D {c : Cab} {f : Flt} {d : Bool} (h : fltV c f) : heightR c f (strD d) = htD c f d := by
 unfold heightR
 rw [fact_prod h, htD_eq h]
 exact (height_eq (j := mD c f d) (mD_le h) rfl).symm
theorem selA {s : Int} : ∀ (l : List (Int × Int)) (i : Nat) (a : Int), (i : Int) ≤ s → s ≤ i + l.length → selS (fun k => decide ((k : Int) < s)) i l a = a + (sumS (l.take (s - i).toNat)).2
 | [], i, a, _, _ => by simp [selS, sumS]
 | x :: r, i, a, h1, h2 => by
  simp only [List.length_cons] at h2
  simp only [selS]
  by_cases e : (i : Int) < s
  ·rw [decide_eq_true e, cond_true, selA r (i + 1) _ (by omega) (by omega), show (s - (i : Int)).toNat = (s - ((i + 1 : Nat) : Int)).toNat + 1 by omega, List.take_succ_cons]
   simp only [sumS]; omega
  ·have : ∀ (l : List (Int × Int)) (j : Nat) (a : Int), s ≤ (j : Int) → selS (fun k => decide ((k : Int) < s)) j l a = a := by
    intro l
    induction l with
    | nil => intro j a _; rfl
    | cons y t ih => intro j a hj; simp only [selS]; rw [decide_eq_false (by omega), cond_false]; exact ih (j + 1) a (by omega)
   rw [decide_eq_false e, cond_false, this r (i + 1) a (by omega), show (s - (i : Int)).toNat = 0 by omega]
   simp [sumS]
theorem selB {s : Int} : ∀ (l : List (Int × Int)) (i : Nat) (a : Int), (i : Int) ≤ s + 1 → s + 1 ≤ i + l.length → selS (fun k => decide (s < (k : Int))) i l a = a + (sumS l).2 - (sumS (l.take (s + 1 - i).toNat)).2
 | [], i, a, _, _ => by simp [selS, sumS]
 | x :: r, i, a, h1, h2 => by
  simp only [List.length_cons] at h2
  simp only [selS]
  by_cases e : s < (i : Int)
  ·have : ∀ (l : List (Int × Int)) (j : Nat) (a : Int), s < (j : Int) → selS (fun k => decide (s < (k : Int))) j l a = a + (sumS l).2 := by
    intro l
    induction l with
    | nil => intro j a _; simp [selS, sumS]
    | cons y t ih => intro j a hj; simp only [selS, sumS]; rw [decide_eq_true hj, cond_true, ih (j + 1) _ (by omega)]; omega
   rw [decide_eq_true e, cond_true, this r (i + 1) _ (by omega), show (s + 1 - (i : Int)).toNat = 0 by omega]
   simp only [sumS, List.take_zero]; omega
  ·rw [decide_eq_false e, cond_false, selB r (i + 1) _ (by omega) (by omega), show (s + 1 - (i : Int)).toNat = (s + 1 - ((i + 1 : Nat) : Int)).toNat + 1 by omega, List.take_succ_cons]
   simp only [sumS]; omega
theorem tick_D {c : Cab} {f : Flt} {d : Bool} (h : fltV c f) : tickR c f (strD d) = tkD c f d := by
 obtain ⟨hv, g1, g2, _⟩ := h
 have ps := pos_succ (c := c) (b := f.1) (by omega) (by omega)
 unfold tickR tkD tickD placeP strD endD sg
 cases d
 ·simp only [cond_false]
  rw [isB_sA, cond_false, selS_congr (q' := fun k => decide ((k : Int) < f.1)) (fun i => by unfold qR; rw [isA_sA, isB_sA]; cases decide ((i : Int) < f.1) <;> rfl), selA _ _ _ (by omega) (by omega), pos_zero, show (f.1 - ((0 : Nat) : Int)).toNat = f.1.toNat by omega]
  unfold posC; omega
 ·simp only [cond_true]
  rw [isB_sB, cond_true, selS_congr (q' := fun k => decide (f.1 < (k : Int))) (fun i => by unfold qR; rw [isA_sB, isB_sB]; rfl), selB _ _ _ (by omega) (by omega), pos_full, show (f.1 + 1 - ((0 : Nat) : Int)).toNat = (f.1 + 1).toNat by omega]
  have : posC c (f.1 + 1) = (sumS (c.1.take (f.1 + 1).toNat)).2 := rfl
  rw [← this, ps]; omega
set_option maxHeartbeats 20000000
theorem sumK_cut {n : Int} {k : Key} {L : Int} (hk : k.1 ≤ L) : ∀ l : List Stp, sumK n k (l.filter fun x => decide (x.1 ≤ L)) = sumK n k l
 | [] => rfl
 | x :: l => by
  have ih := sumK_cut (n := n) hk l
  rw [List.filter_cons]
  split
  ·simp only [sumK]; rw [ih]
  ·rename_i hx
   simp only [sumK]
   rw [ih, if_neg, Int.zero_add]
   intro hk'
   have h1 : x.1 = k.1 := hk'.2.1
   exact hx (decide_eq_true (by omega))
theorem arr_win {c : Cab} {f : Flt} {win win' : Int} (h : fltV c f) (hw : win ≤ win') : arrS c f win = (arrS c f win').filter fun a => decide (a.1 ≤ f.2.2.1 + win) := by
 refine srtA_ext (arrS_sorted h) ((arrS_sorted h).filter _) fun a => ?_
 have hp := waves_perm (win := win) h
 have hp' := waves_perm (win := win') h
 have ef : (initS c f).flatMap (tree c (f.2.2.1 + win) 7) = ((initS c f).flatMap (tree c (f.2.2.1 + win') 7)).filter fun x => decide (x.1 ≤ f.2.2.1 + win) := by
  rw [List.filter_flatMap]
  exact flatMap_congr' fun x _ => tree_window h.1 (by omega) 7 x
 rw [List.mem_filter, arrS_mem h, arrS_mem h, hasK_perm hp, sumK_perm hp, hasK_perm hp', sumK_perm hp', ef]
 generalize (initS c f).flatMap (tree c (f.2.2.1 + win') 7) = l
 rw [decide_eq_true_iff]
 have e1 : hasK c.1.length (a.1, a.2.1) (l.filter fun x => decide (x.1 ≤ f.2.2.1 + win)) ↔ hasK c.1.length (a.1, a.2.1) l ∧ a.1 ≤ f.2.2.1 + win := by
  constructor
  ·rintro ⟨x, hx, hk⟩
   have hx := List.mem_filter.1 hx
   have h1 : x.1 = a.1 := hk.2.1
   exact ⟨⟨x, hx.1, hk⟩, by rw [← h1]; exact of_decide_eq_true hx.2⟩
  ·rintro ⟨⟨x, hx, hk⟩, h2⟩
   have h1 : x.1 = a.1 := hk.2.1
   exact ⟨x, List.mem_filter.2 ⟨hx, by rw [h1]; exact decide_eq_true h2⟩, hk⟩
 have e2 := fun ha => sumK_cut (n := c.1.length) (k := (a.1, a.2.1)) (L := f.2.2.1 + win) ha l
 rw [e1]
 constructor
 ·rintro ⟨⟨h1, h2⟩, h3⟩
  exact ⟨⟨h1, by rw [h3, e2 h2]⟩, h2⟩
 ·rintro ⟨⟨h1, h3⟩, h2⟩
  exact ⟨⟨h1, h2⟩, by rw [h3, e2 h2]⟩
def turnF (c : Cab) (f : Flt) : Flt := (c.1.length - 1 - f.1, (c.1.getD f.1.toNat (0, 0)).2 - f.2.1, f.2.2.1, f.2.2.2)
theorem end_str {c : Cab} {f : Flt} {win : Int} {a : Arr} (ha : a ∈ arrS c f win) (h : fltV c f) : ∃ d, a.2.1 = strD d := by
 obtain ⟨⟨x, _, hk⟩, _⟩ := (arrS_mem h a).1 ha
 have e : endW x = a.2.1 := hk.2.2
 rw [← e]
 unfold endW strD
 by_cases h0 : x.2.1 = 0
 ·exact ⟨false, by rw [if_pos h0]; rfl⟩
 ·exact ⟨true, by rw [if_neg h0]; rfl⟩
theorem arr_tick {c : Cab} {f : Flt} {win : Int} (h : fltV c f) {a : Arr} (ha : a ∈ arrS c f win) : (0 ≤ a.1 ∧ a.1 ≤ 100448) ∧ a.1 ≤ f.2.2.1 + win ∧ -4363686772736 ≤ a.2.2 ∧ a.2.2 ≤ 4363686772736 := by
 obtain ⟨⟨x, hx, hk⟩, hs⟩ := (arrS_mem h a).1 ha
 have hH := (waves_H h).1 x hx
 have e : x.1 = a.1 := hk.2.1
 have b3 := hH.1.2.2.1
 have b0 := hH.1.1
 have hb : ∀ l : List Stp, (∀ w ∈ l, wvH c w) → -(17179869184 * (l.length : Int)) ≤ sumK c.1.length (a.1, a.2.1) l ∧ sumK c.1.length (a.1, a.2.1) l ≤ 17179869184 * l.length := by
  intro l
  induction l with
  | nil => intro _; simp [sumK]
  | cons w r ih =>
   intro hl
   have h1 := ih fun x hx => hl x (by simp [hx])
   have h2 := wvH_ht (hl w (by simp))
   simp only [sumK, List.length_cons]
   split <;> omega
 have hl := waves_len (win := win) h
 have := hb (wavesS c f win) fun w hw => ((waves_H h).1 w hw).1
 rw [← hs] at this
 omega
theorem chkGo_ok : ∀ {l : List Arr} {p : Option Arr}, srtA l → (∀ b, p = some b → ∀ a ∈ l, ltA b a) → (∀ a ∈ l, (0 ≤ a.1 ∧ a.1 ≤ 999999999) ∧ endS a.2.1 = 0 ∧ -17592186044416 ≤ a.2.2 ∧ a.2.2 ≤ 17592186044416) → chkGo p l = 0
 | [], _, _, _, _ => by cases ‹Option Arr› <;> rfl
 | a :: r, p, hs, hp, ha => by
  replace hs := List.pairwise_cons.1 hs
  have h1 := ha a (by simp)
  have hl : lateA p a = false := by
   cases p with
   | none => rfl
   | some b =>
    have := hp b rfl a (by simp)
    show decide (cmpA a b ≤ 0) = false
    refine decide_eq_false fun q => ?_
    have n1 : ¬ ltA a b := fun q => ltA_irrefl _ (ltA_trans this q)
    rw [← cmpA_iff] at n1
    have e : cmpA a b = 0 := by omega
    unfold cmpA at e
    have hz := firstS_zero e
    simp only [List.mem_cons, List.not_mem_nil, or_false, forall_eq_or_imp, forall_eq] at hz
    obtain ⟨z1, z2⟩ := hz
    rcases this with q | ⟨q1, q2⟩
    ·unfold cmpI at z1
     rw [if_neg (by omega), if_pos q] at z1
     omega
    ·unfold cmpB at z2
     split at z2
     ·omega
     ·split at z2
      ·rename_i e
       unfold bLt at q2; rw [e, bl_irrefl] at q2; cases q2
      ·omega
  have e : oneA p a = 0 := by
   unfold oneA
   rw [hl, within_zero.2 h1.1, h1.2.1, within_zero.2 h1.2.2]
   rfl
  simp only [chkGo]
  rw [if_pos e]
  exact chkGo_ok hs.2 (fun b hb x hx => by cases hb; exact hs.1 x hx) fun x hx => ha x (by simp [hx])
theorem endS_str (d : Bool) : endS (strD d) = 0 := by
 unfold endS strD
 cases d
 ·simp only [cond_false]; simp
 ·simp only [cond_true]; simp
theorem arr_ok {c : Cab} {f : Flt} {win : Int} (h : fltV c f) : arrE (arrS c f win) = 0 := by
 have hl := arrS_len (win := win) h
 unfold arrE
 rw [if_neg (by omega)]
 refine chkGo_ok (arrS_sorted h) (fun b hb => by cases hb) fun a ha => ?_
 have := arr_tick h ha
 obtain ⟨d, hd⟩ := end_str ha h
 exact ⟨by omega, by rw [hd]; exact endS_str d, by omega⟩
set_option maxHeartbeats 20000000
def leF (x y : Int × Int) : Prop := x.1 * y.2 ≤ y.1 * x.2
theorem low_cross {n d : Int} (h : 0 < d) : (lowestS n d).1 * d = n * (lowestS n d).2 ∧ 0 < (lowestS n d).2 := by
 have hg := gcdS_pos (n := n) h
 obtain ⟨a, ha⟩ : gcdS n d ∣ n := Int.gcd_dvd_left n d
 obtain ⟨b, hb⟩ : gcdS n d ∣ d := Int.gcd_dvd_right n d
 have e1 : n.tdiv (gcdS n d) = a := by
  have := Int.mul_tdiv_cancel_left a (by omega : gcdS n d ≠ 0)
  rw [← ha] at this; exact this
 have e2 : d.tdiv (gcdS n d) = b := by
  have := Int.mul_tdiv_cancel_left b (by omega : gcdS n d ≠ 0)
  rw [← hb] at this; exact this
 refine ⟨?_, tdiv_gcd_pos h⟩
 show n.tdiv (gcdS n d) * d = n * d.tdiv (gcdS n d)
 rw [e1, e2]
 generalize gcdS n d = g at ha hb
 rw [ha, hb]; grind
theorem low_le {a b c d : Int} (hb : 0 < b) (hd : 0 < d) (h : a * d ≤ c * b) : leF (lowestS a b) (lowestS c d) := by
 obtain ⟨h1, h2⟩ := low_cross (n := a) hb
 obtain ⟨h3, h4⟩ := low_cross (n := c) hd
 unfold leF
 generalize (lowestS a b).1 = p at *
 generalize (lowestS a b).2 = q at *
 generalize (lowestS c d).1 = r at *
 generalize (lowestS c d).2 = s at *
 have hbd : 0 < b * d := Int.mul_pos hb hd
 have hqs : 0 ≤ q * s := Int.le_of_lt (Int.mul_pos h2 h4)
 have e1 : p * s * (b * d) = a * d * (q * s) := by grind
 have e2 : r * q * (b * d) = c * b * (q * s) := by grind
 have := Int.mul_le_mul_of_nonneg_right h hqs
 rw [← e1, ← e2] at this
 exact Int.le_of_mul_le_mul_right this hbd
theorem cop_dvd {p q s : Int} (h : Int.gcd p q = 1) (hd : q ∣ p * s) : q ∣ s := by
 have h1 := Int.natAbs_dvd_natAbs.2 hd
 rw [Int.natAbs_mul] at h1
 have h2 : Nat.Coprime q.natAbs p.natAbs := by
  show Nat.gcd q.natAbs p.natAbs = 1
  rw [Nat.gcd_comm]; exact h
 exact Int.natAbs_dvd_natAbs.1 (h2.dvd_of_dvd_mul_left h1)
theorem low_eq {a b c d : Int} (hb : 0 < b) (hd : 0 < d) (h : a * d = c * b) : lowestS a b = lowestS c d := by
 have hg1 := gcdS_pos (n := a) hb
 have hg2 := gcdS_pos (n := c) hd
 -- both are in lowest terms
 have key : ∀ {n d : Int}, 0 < d → Int.gcd (lowestS n d).1 (lowestS n d).2 = 1 := by
  intro n d h
  have hg := gcdS_pos (n := n) h
  have hp : 0 < Int.gcd n d := by unfold gcdS at hg; omega
  have e1 : n.tdiv (gcdS n d) = n / gcdS n d := Int.tdiv_eq_ediv_of_dvd (Int.gcd_dvd_left n d)
  have e2 : d.tdiv (gcdS n d) = d / gcdS n d := Int.tdiv_eq_ediv_of_dvd (Int.gcd_dvd_right n d)
  show Int.gcd (n.tdiv (gcdS n d)) (d.tdiv (gcdS n d)) = 1
  rw [e1, e2]
  exact Int.gcd_ediv_gcd_ediv_gcd hp
 obtain ⟨h1, h2⟩ := low_cross (n := a) hb
 obtain ⟨h3, h4⟩ := low_cross (n := c) hd
 have k1 := key (n := a) hb
 have k2 := key (n := c) hd
 have hx : (lowestS a b).1 * (lowestS c d).2 = (lowestS c d).1 * (lowestS a b).2 := by
  generalize (lowestS a b).1 = p at *
  generalize (lowestS a b).2 = q at *
  generalize (lowestS c d).1 = r at *
  generalize (lowestS c d).2 = s at *
  have hbd : b * d ≠ 0 := by have := Int.mul_pos hb hd; omega
  have e1 : p * s * (b * d) = a * d * (q * s) := by grind
  have e2 : r * q * (b * d) = c * b * (q * s) := by grind
  rw [h, ← e2] at e1
  exact Int.eq_of_mul_eq_mul_right hbd e1
 generalize lowestS a b = x at *
 generalize lowestS c d = y at *
 obtain ⟨p, q⟩ := x
 obtain ⟨r, s⟩ := y
 dsimp only at *
 -- q divides s, s divides q
 have d1 : q ∣ s := by
  have : q ∣ p * s := ⟨r, by rw [hx, Int.mul_comm]⟩
  exact cop_dvd k1 this
 have d2 : s ∣ q := by
  have : s ∣ r * q := ⟨p, by rw [← hx, Int.mul_comm]⟩
  exact cop_dvd k2 this
 have e : q = s := Int.dvd_antisymm (Int.le_of_lt h2) (Int.le_of_lt h4) d1 d2
 subst e
 have : p = r := Int.eq_of_mul_eq_mul_right (by omega) hx
 rw [this]
abbrev okL (l : List (Int × Int)) : Prop := ∀ x ∈ l, 1 ≤ x.1 ∧ x.1 ≤ 100000 ∧ 1 ≤ x.2 ∧ x.2 ≤ 64
theorem low_one (a : Int) : lowestS a 1 = (a, 1) := lowest_one a
theorem place_ge {l : List (Int × Int)} : ∀ {a n : Int}, okL l → 0 ≤ n → leF (a, 1) (placeGo 2 l a n) := by
 induction l with
 | nil => intro a n _ _; simp only [placeGo]; rw [low_one]; unfold leF; omega
 | cons s r ih =>
  intro a n h hn
  have hs := h s (by simp)
  simp only [placeGo]
  split
  ·rw [← low_one a]
   refine low_le (by decide) (by omega) ?_
   have : 0 ≤ s.1 * n := Int.mul_nonneg (by omega) hn
   rw [Int.mul_one, Int.mul_assoc]; omega
  ·have := ih (a := a + s.1) (n := n - s.2 * 2) (fun x hx => h x (by simp [hx])) (by omega)
   unfold leF at this ⊢
   dsimp only at this ⊢
   have hp : 0 ≤ (placeGo 2 r (a + s.1) (n - s.2 * 2)).2 := by
    rcases Int.lt_or_le (placeGo 2 r (a + s.1) (n - s.2 * 2)).2 0 with q | q
    ·exfalso
     have hpos : ∀ (l : List (Int × Int)) (a n : Int), okL l → 0 < (placeGo 2 l a n).2 := by
      intro l
      induction l with
      | nil => intro a n _; simp only [placeGo]; exact (low_cross (by decide)).2
      | cons s r ih =>
       intro a n h
       have hs := h s (by simp)
       simp only [placeGo]
       split
       ·exact (low_cross (by omega)).2
       ·exact ih _ _ fun x hx => h x (by simp [hx])
     have := hpos r (a + s.1) (n - s.2 * 2) fun x hx => h x (by simp [hx])
     omega
    ·exact q
   have : a * (placeGo 2 r (a + s.1) (n - s.2 * 2)).2 ≤ (a + s.1) * (placeGo 2 r (a + s.1) (n - s.2 * 2)).2 := Int.mul_le_mul_of_nonneg_right (by omega) hp
   omega
theorem place_pos : ∀ (l : List (Int × Int)) (a n : Int), okL l → 0 < (placeGo 2 l a n).2 := by
 intro l
 induction l with
 | nil => intro a n _; simp only [placeGo]; exact (low_cross (by decide)).2
 | cons s r ih =>
  intro a n h
  have hs := h s (by simp)
  simp only [placeGo]
  split
  ·exact (low_cross (by omega)).2
  ·exact ih _ _ fun x hx => h x (by simp [hx])
theorem leF_trans {x y z : Int × Int} (hx : 0 < x.2) (hy : 0 < y.2) (hz : 0 < z.2) (h : leF x y) (h' : leF y z) : leF x z := by
 unfold leF at *
 have h1 := Int.mul_le_mul_of_nonneg_right h (Int.le_of_lt hz)
 have h2 := Int.mul_le_mul_of_nonneg_right h' (Int.le_of_lt hx)
 have e1 : x.1 * y.2 * z.2 = x.1 * z.2 * y.2 := by grind
 have e2 : y.1 * x.2 * z.2 = y.1 * z.2 * x.2 := by grind
 have e3 : z.1 * y.2 * x.2 = z.1 * x.2 * y.2 := by grind
 rw [e1, e2] at h1
 rw [e3] at h2
 exact Int.le_of_mul_le_mul_right (Int.le_trans h1 h2) hy
theorem place_mono : ∀ {l : List (Int × Int)} {a m n : Int}, okL l → 0 ≤ m → m ≤ n → leF (placeGo 2 l a m) (placeGo 2 l a n)
 | [], a, m, n, _, _, _ => by simp only [placeGo]; unfold leF; omega
 | s :: r, a, m, n, h, h0, hmn => by
  have hs := h s (by simp)
  have hr : okL r := fun x hx => h x (by simp [hx])
  simp only [placeGo]
  by_cases h1 : m ≤ s.2 * 2
  ·rw [if_pos h1]
   by_cases h2 : n ≤ s.2 * 2
   ·rw [if_pos h2]
    refine low_le (by omega) (by omega) ?_
    refine Int.mul_le_mul_of_nonneg_right ?_ (by omega)
    have := Int.mul_le_mul_of_nonneg_left hmn (by omega : 0 ≤ s.1)
    omega
   ·rw [if_neg h2]
    refine leF_trans (y := (a + s.1, 1)) (low_cross (by omega)).2 (Int.zero_lt_one) (place_pos _ _ _ hr) ?_ (place_ge hr (by omega))
    rw [← low_one (a + s.1)]
    refine low_le (by omega) (by decide) ?_
    have := Int.mul_le_mul_of_nonneg_left h1 (by omega : 0 ≤ s.1)
    rw [Int.mul_one, Int.add_mul, Int.mul_assoc a]; omega
  ·rw [if_neg h1, if_neg (by omega)]
   exact place_mono hr (by omega) (by omega)
theorem low_even {a b B : Int} (hb : 0 < b) (h : b ≤ B) : (lowestS (2 * a) (2 * b)).2 ≤ B := by
 have e : lowestS (2 * a) (2 * b) = lowestS a b := low_eq (by omega) hb (by grind)
 rw [e]
 have hg := gcdS_pos (n := a) hb
 have := tdiv_bd (a := b) (g := gcdS a b) (B := b) ⟨by omega, by omega⟩
 show b.tdiv (gcdS a b) ≤ B
 omega
theorem low_den {a b : Int} (hb : 0 < b) : (lowestS a b).2 ≤ b := by
 have hg := gcdS_pos (n := a) hb
 have := tdiv_bd (a := b) (g := gcdS a b) (B := b) ⟨by omega, by omega⟩
 show b.tdiv (gcdS a b) ≤ b
 omega
theorem place_le : ∀ {l : List (Int × Int)} {a n : Int}, okL l → 0 ≤ n → leF (placeGo 2 l a n) (a + (sumS l).1, 1)
 | [], a, n, _, _ => by simp only [placeGo, sumS]; rw [low_one]; unfold leF; omega
 | s :: r, a, n, h, hn => by
  have hs := h s (by simp)
  have hr : okL r := fun x hx => h x (by simp [hx])
  have b := sumS_bd hr
  simp only [placeGo, sumS]
  split
  ·rename_i h1
   rw [← low_one (a + (s.1 + (sumS r).1))]
   refine low_le (by omega) (by decide) ?_
   have e1 := Int.mul_le_mul_of_nonneg_left h1 (by omega : 0 ≤ s.1)
   have e2 : 0 ≤ (sumS r).1 * (s.2 * 2) := Int.mul_nonneg (by omega) (by omega)
   rw [Int.mul_one, Int.add_mul, Int.add_mul, Int.mul_assoc a]; omega
  ·have := place_le (l := r) (a := a + s.1) (n := n - s.2 * 2) hr (by omega)
   rw [Int.add_assoc] at this
   exact this
theorem place_den : ∀ {l : List (Int × Int)} {a n : Int}, okL l → (placeGo 2 l a n).2 ≤ 128 ∧ (∀ k, n = 2 * k → (placeGo 2 l a n).2 ≤ 64)
 | [], a, n, _ => by
  simp only [placeGo]; rw [low_one]
  exact ⟨by show (1 : Int) ≤ 128; decide, fun _ _ => by show (1 : Int) ≤ 64; decide⟩
 | s :: r, a, n, h => by
  have hs := h s (by simp)
  have hr : okL r := fun x hx => h x (by simp [hx])
  simp only [placeGo]
  split
  ·refine ⟨?_, fun k hk => ?_⟩
   ·have := low_den (a := a * s.2 * 2 + s.1 * n) (b := s.2 * 2) (by omega); omega
   ·have := low_even (a := a * s.2 + s.1 * k) (b := s.2) (B := 64) (by omega) (by omega)
    rw [show a * s.2 * 2 + s.1 * n = 2 * (a * s.2 + s.1 * k) by rw [hk]; grind, Int.mul_comm s.2 2]
    exact this
  ·obtain ⟨h1, h2⟩ := place_den (l := r) (a := a + s.1) (n := n - s.2 * 2) hr
   exact ⟨h1, fun k hk => h2 (k - s.2) (by omega)⟩
theorem place_bds {l : List (Int × Int)} {n : Int} (h : okL l) (hl : l.length ≤ 6) (hn : 0 ≤ n) : 1 ≤ (placeGo 2 l 0 n).2 ∧ (placeGo 2 l 0 n).2 ≤ 128 ∧ 0 ≤ (placeGo 2 l 0 n).1 ∧ (placeGo 2 l 0 n).1 ≤ 600000 * (placeGo 2 l 0 n).2 ∧ (∀ k, n = 2 * k → (placeGo 2 l 0 n).2 ≤ 64) := by
 have h1 := place_pos l 0 n h
 have h2 := place_ge (a := 0) h hn
 have h3 := place_le (a := 0) h hn
 have h4 := place_den (a := 0) (n := n) h
 have b := sumS_bd h
 unfold leF at h2 h3
 dsimp only at h2 h3
 have : (sumS l).1 * (placeGo 2 l 0 n).2 ≤ 600000 * (placeGo 2 l 0 n).2 := Int.mul_le_mul_of_nonneg_right (by omega) (by omega)
 rw [Int.zero_add] at h3
 exact ⟨by omega, h4.1, by omega, by omega, h4.2⟩
theorem loc_exact {c : Cab} {f : Flt} (h : fltV c f) (a b : Int × Int) (ha : a.1 ≤ tkD c f false ∧ tkD c f false ≤ a.2) (hb : b.1 ≤ tkD c f true ∧ tkD c f true ≤ b.2) : 0 ≤ lowF c a b ∧ lowF c a b ≤ 2 * placeP c f ∧ 2 * placeP c f ≤ highF c a b := by
 have h1 : tkD c f false = f.2.2.1 + placeP c f := by
  unfold tkD tickD endD sg; simp only [cond_false]; rw [pos_zero]; omega
 have h2 : tkD c f true = f.2.2.1 + (sumS c.1).2 - placeP c f := by
  unfold tkD tickD endD sg; simp only [cond_true]; rw [pos_full]; omega
 have t1 := tick_bd (d := false) h
 have t2 := tick_bd (d := true) h
 unfold lowF highF
 omega
theorem loc_same {c : Cab} {f : Flt} (h : fltV c f) : lowF c (tkD c f false, tkD c f false) (tkD c f true, tkD c f true) = 2 * placeP c f ∧ highF c (tkD c f false, tkD c f false) (tkD c f true, tkD c f true) = 2 * placeP c f := by
 have h1 : tkD c f false = f.2.2.1 + placeP c f := by
  unfold tkD tickD endD sg; simp only [cond_false]; rw [pos_zero]; omega
 have h2 : tkD c f true = f.2.2.1 + (sumS c.1).2 - placeP c f := by
  unfold tkD tickD endD sg; simp only [cond_true]; rw [pos_full]; omega
 have t1 := tick_bd (d := false) h
 have t2 := tick_bd (d := true) h
 unfold lowF highF
 dsimp only
 omega
set_option maxHeartbeats 20000000
theorem firstS_all : ∀ {l : List Int}, (∀ x ∈ l, x = 0) → firstS l = 0
 | [], _ => rfl
 | x :: l, h => by
  rw [firstS_cons, if_pos (h x (by simp))]
  exact firstS_all fun y hy => h y (by simp [hy])
theorem cabV_S {c : Cab} (h : cabV c) : cabS c = 0 := by
 obtain ⟨v1, v2, v3, v4, v5, v6, v7⟩ := h
 unfold cabS
 rw [if_neg (by omega), if_neg (by omega), if_neg (by omega)]
 refine firstS_all fun x hx => ?_
 simp only [List.mem_cons, List.not_mem_nil, or_false] at hx
 rcases hx with rfl | rfl | rfl | rfl
 ·refine firstS_all fun y hy => ?_
  obtain ⟨s, hs, rfl⟩ := List.mem_map.1 hy
  have := v3 s hs
  unfold secS
  rw [within_zero.2 ⟨this.1, this.2.1⟩, within_zero.2 ⟨this.2.2.1, this.2.2.2⟩]; rfl
 ·rfl
 ·refine firstS_all fun y hy => ?_
  obtain ⟨s, hs, rfl⟩ := List.mem_map.1 hy
  exact within_zero.2 (v5 s hs)
 ·unfold facS
  rw [within_zero.2 v6, within_zero.2 v7]; rfl
theorem fltV_S {c : Cab} {f : Flt} (h : fltV c f) : fltS c f = 0 := by
 obtain ⟨hv, g1, g2, g3, g4, g5⟩ := h
 unfold fltS
 rw [if_pos (cabV_S hv), if_pos (secE_zero.2 g1), if_neg g5]
 unfold offE
 rw [within_zero.2 ⟨g2.1, by omega⟩, within_zero.2 g3, within_zero.2 g4]; rfl
theorem winS_zero {c : Cab} {f : Flt} {win : Int} (h : fltV c f) (hw : 0 ≤ win ∧ win ≤ 1000) : winS c f win = 0 := by
 unfold winS
 rw [fltV_S h, within_zero.2 hw]; rfl
def partQ (x : Int × Int) (t : Int) : Int := (x.1 * t).tdiv x.2
def splitL (l : List (Int × Int)) (s : Nat) (t : Int) : List (Int × Int) := l.take s ++ (partQ (l.getD s (0, 0)) t, t) :: ((l.getD s (0, 0)).1 - partQ (l.getD s (0, 0)) t, (l.getD s (0, 0)).2 - t) :: l.drop (s + 1)
def splitC (c : Cab) (s : Nat) (t : Int) : Cab := (splitL c.1 s t, c.2.1.take s ++ 0 :: c.2.1.drop s, c.2.2)
theorem partQ_bd {x : Int × Int} {t : Int} (hx : 1 ≤ x.1 ∧ x.1 ≤ 100000 ∧ 1 ≤ x.2 ∧ x.2 ≤ 64) (ht : 1 ≤ t ∧ t < x.2) : 0 ≤ partQ x t ∧ partQ x t < x.1 := by
 have h0 : 0 ≤ x.1 * t := Int.mul_nonneg (by omega) (by omega)
 unfold partQ
 rw [Int.tdiv_eq_ediv_of_nonneg h0]
 refine ⟨Int.ediv_nonneg h0 (by omega), ?_⟩
 refine Int.ediv_lt_of_lt_mul (by omega) ?_
 exact Int.mul_lt_mul_of_pos_left ht.2 (by omega)
set_option maxHeartbeats 20000000
theorem ht_one {c : Cab} {f : Flt} {d : Bool} (h : fltV c f) : htD c f d = f.2.2.2 * oneS c (strD d) f.1.toNat := by
 have e : ((f.1.toNat : Nat) : Int) = f.1 := by have := h.2.1; omega
 rw [htD_eq h]
 unfold oneS
 rw [e, fact_prod h, Int.mul_assoc]
theorem openGo_some {l : List Arr} {e : ByteArray} {lim : Int} : ∀ {n : Nat} {t r : Int}, openGo l e lim n t = some r → (t ≤ r ∧ r < t + n) ∧ okO l e lim r = true
 | 0, _, _, h => by cases h
 | n + 1, t, r, h => by
  simp only [openGo] at h
  cases hq : okO l e lim t with
  | true =>
   rw [hq] at h
   simp only [cond_true, Option.some.injEq] at h
   subst h
   exact ⟨by omega, hq⟩
  | false =>
   rw [hq] at h
   obtain ⟨h1, h2⟩ := openGo_some (n := n) h
   exact ⟨by omega, h2⟩
theorem sumGo_filter {e : ByteArray} {t L : Int} : ∀ (l : List Arr) (n : Int), sumGo e t (l.filter fun a => decide (a.1 ≤ L)) n = sumGo e (min t L) l n
 | [], n => rfl
 | a :: l, n => by
  rw [List.filter_cons]
  by_cases h : a.1 ≤ L
  ·rw [if_pos (decide_eq_true h)]
   simp only [sumGo]
   have : okAt e t a = okAt e (min t L) a := by
    unfold okAt
    rw [show decide (a.1 ≤ t) = decide (a.1 ≤ min t L) from decide_eq_decide.2 (by omega)]
   rw [this]; exact sumGo_filter l _
  ·rw [if_neg (by simpa using h)]
   simp only [sumGo]
   have : okAt e (min t L) a = false := by
    unfold okAt
    rw [decide_eq_false (by omega)]
    cases isEnd e a <;> rfl
   rw [this]; exact sumGo_filter l n
end Go.Proofs.YtcledkhhecdppaaGreatDoor
