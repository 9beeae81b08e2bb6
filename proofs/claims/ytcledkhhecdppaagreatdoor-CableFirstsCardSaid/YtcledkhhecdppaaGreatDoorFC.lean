/- Contracts of the functions that the laws reach: part of the proof. -/
import Derived.Test.YtcledkhhecdppaaGreatDoorFB
import Derived.KernelRfl
import Derived.Lib.ItoaLen
set_option linter.unusedSimpArgs false
set_option linter.unusedVariables false
set_option maxRecDepth 20000
namespace Go.Proofs.YtcledkhhecdppaaGreatDoor
open Go.Sx
set_option maxHeartbeats 20000000
abbrev G300 : Gam := []
theorem g300 [Sx.Dr] : GamOk Tryz.prog G300 := .nil _
def shortS (c : Cab) : Bool := decide (c.1.length ≤ 7) && decide (c.2.1.length ≤ 8)
def cShort : Con := { args := [aCR], ress := [Bo], owns := [], pre := fun _ => [], spec := fun (c, _) => (shortS c, ()) }
theorem vc17 : ∀ (c : Cab), wpF Tryz.prog G300 (na ()) Tryz.f17 cShort (c, ()) = ((bif decide ((↑(List.length c.fst) : Int) ≤ (7 : Int)) then decide ((↑(List.length c.snd.fst) : Int) ≤ (8 : Int)) else false) = shortS c) := by
 intros
 kernel_rfl
theorem wp17 (c : Cab) : wpF Tryz.prog G300 (na ()) Tryz.f17 cShort (c, ()) := by
 refine (vc17 c).mpr ?_
 unfold shortS
 rw [show decide (c.1.length ≤ 7) = decide ((c.1.length : Int) ≤ 7) from decide_eq_decide.2 (by omega), show decide (c.2.1.length ≤ 8) = decide ((c.2.1.length : Int) ≤ 8) from decide_eq_decide.2 (by omega)]
 cases decide ((c.1.length : Int) ≤ 7) <;> rfl
theorem ok17 [Sx.Dr] : Ok Tryz.prog 17 cShort := ok_of_wp mixed g300 (by kernel_rfl) (by kernel_rfl) na fun xx => wp17 xx.1
abbrev G301 : Gam := (17, cShort) :: G300
theorem g301 [Sx.Dr] : GamOk Tryz.prog G301 := .cons ok17 g300
def shortA (l : List Arr) : Bool := (l.all fun a => decide (a.2.1.size ≤ 20)) && (decide (l.length ≤ 40) || decide (l.length = 2049))
def cShortA : Con := { args := [.val false (.list 130 sArr)], ress := [Bo], owns := [], pre := fun (l, _) => [l.length ≤ 9223372036854775807], spec := fun (l, _) => (shortA l, ()) }
abbrev annShA (l : List Arr) : Ann := { X := Nat, σ := fun k => ⟨1, [(0, .one (.sl 0)), (3, .one (.int .i64 k))], [(0, .imm 130 sArr l)]⟩, inv := fun k => k ≤ l.length ∧ (l.all fun a => decide (a.2.1.size ≤ 20)) = ((l.drop k).all fun a => decide (a.2.1.size ≤ 20)), mu := fun k => l.length - k }
theorem vc40 : ∀ (l : List Arr), wpF Tryz.prog G301 (ann0 (annShA l)) Tryz.f40 cShortA (l, ()) = (List.length l ≤ (9223372036854775807 : Nat) → ∃ (x : Nat), ((0 : Int) = (↑x : Int) ∧ l = l) ∧ (x ≤ List.length l ∧ (List.all l fun (a : Arr) => decide (ByteArray.size a.snd.fst ≤ (20 : Nat))) = List.all (List.drop x l) fun (a : Arr) => decide (ByteArray.size a.snd.fst ≤ (20 : Nat))) ∧ ∀ (x : Nat), (x ≤ List.length l ∧ (List.all l fun (a : Arr) => decide (ByteArray.size a.snd.fst ≤ (20 : Nat))) = List.all (List.drop x l) fun (a : Arr) => decide (ByteArray.size a.snd.fst ≤ (20 : Nat))) → (decide ((↑x : Int) < (↑(List.length l) : Int)) = true → (((0 : Int) ≤ (↑x : Int) ∧ (↑x : Int) < (↑(List.length l) : Int)) ∧ (0 : Int) ≤ (↑x : Int) ∧ (↑x : Int) < (↑(List.length l) : Int)) ∧ (decide ((20 : Int) < (↑(ByteArray.size (List.getD l x ((0 : Int), ByteArray.mk (Array.mk []), (0 : Int))).snd.fst) : Int)) = true → false = shortA l) ∧ (decide ((20 : Int) < (↑(ByteArray.size (List.getD l x ((0 : Int), ByteArray.mk (Array.mk []), (0 : Int))).snd.fst) : Int)) = false → ((-9223372036854775808 : Int) ≤ (↑x : Int) + (1 : Int) ∧ (↑x : Int) + (1 : Int) ≤ (9223372036854775807 : Int)) ∧ ∃ (y : Nat), ((↑x : Int) + (1 : Int) = (↑y : Int) ∧ l = l) ∧ (y ≤ List.length l ∧ (List.all l fun (a : Arr) => decide (ByteArray.size a.snd.fst ≤ (20 : Nat))) = List.all (List.drop y l) fun (a : Arr) => decide (ByteArray.size a.snd.fst ≤ (20 : Nat))) ∧ List.length l - y < List.length l - x)) ∧ (decide ((↑x : Int) < (↑(List.length l) : Int)) = false → (bif decide ((↑(List.length l) : Int) ≤ (40 : Int)) then true else (↑(List.length l) : Int) == (2049 : Int)) = shortA l)) := by
 intros
 kernel_rfl
theorem wp40 (l : List Arr) : wpF Tryz.prog G301 (ann0 (annShA l)) Tryz.f40 cShortA (l, ()) := by
 refine (vc40 l).mpr ?_
 intro hb
 refine ⟨(0 : Nat), ⟨rfl, rfl⟩, ⟨Nat.zero_le _, rfl⟩, fun (k : Nat) hk => ⟨fun h => ?_, fun h => ?_⟩⟩
 ·have hlt : k < l.length := by simpa using h
  have hd : ((l.drop k).all fun a => decide (a.2.1.size ≤ 20)) = (decide ((l.getD k (0, ⟨⟨[]⟩⟩, 0)).2.1.size ≤ 20) && (l.drop (k + 1)).all fun a => decide (a.2.1.size ≤ 20)) := by
   rw [drop_cons (d := (0, ⟨⟨[]⟩⟩, 0)) hlt, List.all_cons]
  refine ⟨⟨by omega, by omega⟩, fun h1 => ?_, fun h1 => ⟨by omega, (k + 1 : Nat), ⟨by simp, rfl⟩, ⟨by omega, ?_⟩, by omega⟩⟩
  ·have h1 := of_decide_eq_true h1
   unfold shortA
   rw [hk.2, hd, decide_eq_false (by omega)]
   rfl
  ·have h1 := of_decide_eq_false h1
   rw [hk.2, hd, decide_eq_true (by omega), Bool.true_and]
 ·have hge : ¬ k < l.length := by simpa using h
  unfold shortA
  rw [hk.2, List.drop_of_length_le (by omega), List.all_nil, Bool.true_and]
  rw [show decide (l.length ≤ 40) = decide ((l.length : Int) ≤ 40) from decide_eq_decide.2 (by omega), show decide (l.length = 2049) = ((l.length : Int) == 2049) by rw [Bool.eq_iff_iff, decide_eq_true_iff, beq_iff_eq]; omega]
  cases decide ((l.length : Int) ≤ 40) <;> rfl
theorem ok40 [Sx.Dr] : Ok Tryz.prog 40 cShortA := ok_of_wp mixed g301 (by kernel_rfl) (by kernel_rfl) (fun xx => ann0 (annShA xx.1)) fun xx => wp40 xx.1
abbrev G302 : Gam := (40, cShortA) :: G301
theorem g302 [Sx.Dr] : GamOk Tryz.prog G302 := .cons ok40 g301
abbrev annConv (T U : TypeId) (s : Sch) (l : List s.T) : Ann := { X := Nat, σ := fun k => ⟨2, [(3, .one (.sl 1)), (6, .one (.sl 0)), (7, .one (.int .i64 l.length)), (8, .one (.int .i64 k))], [(0, .imm T s l), (1, .own U s (l.take k))]⟩, inv := fun k => k ≤ l.length, mu := fun k => l.length - k }
def cConv (T U : TypeId) (s : Sch) : Con := { args := [.val false (.list T s)], ress := [(false, .list U s)], owns := [], pre := fun (l, _) => [l.length ≤ 1000000], spec := fun (l, _) => (l, ()) }
theorem vc32 : ∀ (l : List Stp), wpF Tryz.prog G302 (ann0 (annConv (163 : TypeId) (186 : TypeId) sStp l)) Tryz.f32 (cConv (163 : TypeId) (186 : TypeId) sStp) (l, ()) = (List.length l ≤ (1000000 : Nat) → ∃ (x : Nat), ((↑(List.length l) : Int) = (↑(List.length l) : Int) ∧ (0 : Int) = (↑x : Int) ∧ l = l ∧ List.length (List.take x l) = (0 : Nat)) ∧ x ≤ List.length l ∧ ∀ (x : Nat), x ≤ List.length l → (decide ((↑x : Int) < (↑(List.length l) : Int)) = true → (((0 : Int) ≤ (↑x : Int) ∧ (↑x : Int) < (↑(List.length l) : Int)) ∧ (0 : Int) ≤ (↑x : Int) ∧ (↑x : Int) < (↑(List.length l) : Int)) ∧ (List.length (List.take x l) + (1 : Nat)) * (40 : Nat) ≤ (140737488355328 : Nat) ∧ ((-9223372036854775808 : Int) ≤ (↑x : Int) + (1 : Int) ∧ (↑x : Int) + (1 : Int) ≤ (9223372036854775807 : Int)) ∧ ∃ (y : Nat), ((↑(List.length l) : Int) = (↑(List.length l) : Int) ∧ (↑x : Int) + (1 : Int) = (↑y : Int) ∧ l = l ∧ List.take x l ++ [((List.getD l x ((0 : Int), (0 : Int), false, (0 : Int), (0 : Int))).fst, (List.getD l x ((0 : Int), (0 : Int), false, (0 : Int), (0 : Int))).snd.fst, (List.getD l x ((0 : Int), (0 : Int), false, (0 : Int), (0 : Int))).snd.snd.fst, (List.getD l x ((0 : Int), (0 : Int), false, (0 : Int), (0 : Int))).snd.snd.snd.fst, (List.getD l x ((0 : Int), (0 : Int), false, (0 : Int), (0 : Int))).snd.snd.snd.snd)] = List.take y l) ∧ y ≤ List.length l ∧ List.length l - y < List.length l - x) ∧ (decide ((↑x : Int) < (↑(List.length l) : Int)) = false → List.take x l = l)) := by
 intros
 kernel_rfl
theorem wp32 (l : List Stp) : wpF Tryz.prog G302 (ann0 (annConv 163 186 sStp l)) Tryz.f32 (cConv 163 186 sStp) (l, ()) := by
 refine (vc32 l).mpr ?_
 intro hb
 refine ⟨(0 : Nat), ⟨rfl, rfl, rfl, by simp⟩, Nat.zero_le _, fun (k : Nat) hk => ⟨fun h => ?_, fun h => ?_⟩⟩
 ·have hlt : k < l.length := by simpa using h
  have hl : (l.take k).length ≤ l.length := by simp; omega
  exact ⟨⟨by omega, by omega⟩, by omega, by omega, (k + 1 : Nat), ⟨rfl, by simp, rfl, take_snoc (d := (0, 0, false, 0, 0)) hlt⟩, by omega, by omega⟩
 ·have hge : ¬ k < l.length := by simpa using h
  rw [List.take_of_length_le (by omega)]
theorem ok32 [Sx.Dr] : Ok Tryz.prog 32 (cConv 163 186 sStp) := ok_of_wp mixed g302 (by kernel_rfl) (by kernel_rfl) (fun xx => ann0 (annConv 163 186 sStp xx.1)) fun xx => wp32 xx.1
abbrev G303 : Gam := (32, (cConv 163 186 sStp)) :: G302
theorem g303 [Sx.Dr] : GamOk Tryz.prog G303 := .cons ok32 g302
theorem vc34 : ∀ (l : List Arr), wpF Tryz.prog G303 (ann0 (annConv (107 : TypeId) (130 : TypeId) sArr l)) Tryz.f34 (cConv (107 : TypeId) (130 : TypeId) sArr) (l, ()) = (List.length l ≤ (1000000 : Nat) → ∃ (x : Nat), ((↑(List.length l) : Int) = (↑(List.length l) : Int) ∧ (0 : Int) = (↑x : Int) ∧ l = l ∧ List.length (List.take x l) = (0 : Nat)) ∧ x ≤ List.length l ∧ ∀ (x : Nat), x ≤ List.length l → (decide ((↑x : Int) < (↑(List.length l) : Int)) = true → (((0 : Int) ≤ (↑x : Int) ∧ (↑x : Int) < (↑(List.length l) : Int)) ∧ (0 : Int) ≤ (↑x : Int) ∧ (↑x : Int) < (↑(List.length l) : Int)) ∧ (List.length (List.take x l) + (1 : Nat)) * (32 : Nat) ≤ (140737488355328 : Nat) ∧ ((-9223372036854775808 : Int) ≤ (↑x : Int) + (1 : Int) ∧ (↑x : Int) + (1 : Int) ≤ (9223372036854775807 : Int)) ∧ ∃ (y : Nat), ((↑(List.length l) : Int) = (↑(List.length l) : Int) ∧ (↑x : Int) + (1 : Int) = (↑y : Int) ∧ l = l ∧ List.take x l ++ [((List.getD l x ((0 : Int), ByteArray.mk (Array.mk []), (0 : Int))).fst, (List.getD l x ((0 : Int), ByteArray.mk (Array.mk []), (0 : Int))).snd.fst, (List.getD l x ((0 : Int), ByteArray.mk (Array.mk []), (0 : Int))).snd.snd)] = List.take y l) ∧ y ≤ List.length l ∧ List.length l - y < List.length l - x) ∧ (decide ((↑x : Int) < (↑(List.length l) : Int)) = false → List.take x l = l)) := by
 intros
 kernel_rfl
theorem wp34 (l : List Arr) : wpF Tryz.prog G303 (ann0 (annConv 107 130 sArr l)) Tryz.f34 (cConv 107 130 sArr) (l, ()) := by
 refine (vc34 l).mpr ?_
 intro hb
 refine ⟨(0 : Nat), ⟨rfl, rfl, rfl, by simp⟩, Nat.zero_le _, fun (k : Nat) hk => ⟨fun h => ?_, fun h => ?_⟩⟩
 ·have hlt : k < l.length := by simpa using h
  have hl : (l.take k).length ≤ l.length := by simp; omega
  exact ⟨⟨by omega, by omega⟩, by omega, by omega, (k + 1 : Nat), ⟨rfl, by simp, rfl, take_snoc (d := (0, ⟨⟨[]⟩⟩, 0)) hlt⟩, by omega, by omega⟩
 ·have hge : ¬ k < l.length := by simpa using h
  rw [List.take_of_length_le (by omega)]
theorem ok34 [Sx.Dr] : Ok Tryz.prog 34 (cConv 107 130 sArr) := ok_of_wp mixed g303 (by kernel_rfl) (by kernel_rfl) (fun xx => ann0 (annConv 107 130 sArr xx.1)) fun xx => wp34 xx.1
abbrev G304 : Gam := (34, (cConv 107 130 sArr)) :: G303
theorem g304 [Sx.Dr] : GamOk Tryz.prog G304 := .cons ok34 g303
theorem vc42 : ∀ (l : List Arr), wpF Tryz.prog G304 (ann0 (annConv (130 : TypeId) (107 : TypeId) sArr l)) Tryz.f42 (cConv (130 : TypeId) (107 : TypeId) sArr) (l, ()) = (List.length l ≤ (1000000 : Nat) → ∃ (x : Nat), ((↑(List.length l) : Int) = (↑(List.length l) : Int) ∧ (0 : Int) = (↑x : Int) ∧ l = l ∧ List.length (List.take x l) = (0 : Nat)) ∧ x ≤ List.length l ∧ ∀ (x : Nat), x ≤ List.length l → (decide ((↑x : Int) < (↑(List.length l) : Int)) = true → (((0 : Int) ≤ (↑x : Int) ∧ (↑x : Int) < (↑(List.length l) : Int)) ∧ (0 : Int) ≤ (↑x : Int) ∧ (↑x : Int) < (↑(List.length l) : Int)) ∧ (List.length (List.take x l) + (1 : Nat)) * (32 : Nat) ≤ (140737488355328 : Nat) ∧ ((-9223372036854775808 : Int) ≤ (↑x : Int) + (1 : Int) ∧ (↑x : Int) + (1 : Int) ≤ (9223372036854775807 : Int)) ∧ ∃ (y : Nat), ((↑(List.length l) : Int) = (↑(List.length l) : Int) ∧ (↑x : Int) + (1 : Int) = (↑y : Int) ∧ l = l ∧ List.take x l ++ [((List.getD l x ((0 : Int), ByteArray.mk (Array.mk []), (0 : Int))).fst, (List.getD l x ((0 : Int), ByteArray.mk (Array.mk []), (0 : Int))).snd.fst, (List.getD l x ((0 : Int), ByteArray.mk (Array.mk []), (0 : Int))).snd.snd)] = List.take y l) ∧ y ≤ List.length l ∧ List.length l - y < List.length l - x) ∧ (decide ((↑x : Int) < (↑(List.length l) : Int)) = false → List.take x l = l)) := by
 intros
 kernel_rfl
theorem wp42 (l : List Arr) : wpF Tryz.prog G304 (ann0 (annConv 130 107 sArr l)) Tryz.f42 (cConv 130 107 sArr) (l, ()) := by
 refine (vc42 l).mpr ?_
 intro hb
 refine ⟨(0 : Nat), ⟨rfl, rfl, rfl, by simp⟩, Nat.zero_le _, fun (k : Nat) hk => ⟨fun h => ?_, fun h => ?_⟩⟩
 ·have hlt : k < l.length := by simpa using h
  have hl : (l.take k).length ≤ l.length := by simp; omega
  exact ⟨⟨by omega, by omega⟩, by omega, by omega, (k + 1 : Nat), ⟨rfl, by simp, rfl, take_snoc (d := (0, ⟨⟨[]⟩⟩, 0)) hlt⟩, by omega, by omega⟩
 ·have hge : ¬ k < l.length := by simpa using h
  rw [List.take_of_length_le (by omega)]
theorem ok42 [Sx.Dr] : Ok Tryz.prog 42 (cConv 130 107 sArr) := ok_of_wp mixed g304 (by kernel_rfl) (by kernel_rfl) (fun xx => ann0 (annConv 130 107 sArr xx.1)) fun xx => wp42 xx.1
abbrev G305 : Gam := (42, (cConv 130 107 sArr)) :: G304
theorem g305 [Sx.Dr] : GamOk Tryz.prog G305 := .cons ok42 g304
def cOwn : Con := { args := [aCR], ress := [(true, sCab 166)], owns := [], pre := fun (c, _) => [c.1.length ≤ 1000000, c.2.1.length ≤ 1000000], spec := fun (c, _) => (c, ()) }
abbrev zC : List SC := [.val (.slice none 0 0), .val (.slice none 0 0), .int .i64 0, .int .i64 0]
abbrev annOwn (T U A B : TypeId) (c : Cab) : Ann := { X := Nat, σ := fun k => ⟨8, [(2, .one (.ptr 3 0)), (3, .one (.ptr 6 0)), (14, .one (.sl 0)), (15, .one (.int .i64 c.1.length)), (16, .one (.int .i64 k))], [(0, .imm T sPt c.1), (3, .box B zC), (5, .own 3 sI c.2.1), (6, .box B [.sl 7, .sl 5, .int .i64 c.2.2.1, .int .i64 c.2.2.2]), (7, .own U sPt (c.1.take k))]⟩, inv := fun k => k ≤ c.1.length, mu := fun k => c.1.length - k }
theorem vc19 : ∀ (c : Cab), wpF Tryz.prog G305 (ann0 (annOwn (102 : TypeId) (166 : TypeId) (26 : TypeId) (37 : TypeId) c)) Tryz.f19 cOwn (c, ()) = (List.length c.fst ≤ (1000000 : Nat) → List.length c.snd.fst ≤ (1000000 : Nat) → ((0 : Nat) + List.length c.snd.1) * (8 : Nat) ≤ (140737488355328 : Nat) ∧ ∃ (x : Nat), ((↑(List.length c.fst) : Int) = (↑(List.length c.fst) : Int) ∧ (0 : Int) = (↑x : Int) ∧ c.1 = c.fst ∧ Value.slice none (0 : Nat) (0 : Nat) = Value.slice none (0 : Nat) (0 : Nat) ∧ Value.slice none (0 : Nat) (0 : Nat) = Value.slice none (0 : Nat) (0 : Nat) ∧ (0 : Int) = (0 : Int) ∧ (0 : Int) = (0 : Int) ∧ c.snd.1 = c.snd.fst ∧ c.snd.snd.fst = c.snd.snd.fst ∧ c.snd.snd.snd = c.snd.snd.snd ∧ List.length (List.take x c.fst) = (0 : Nat)) ∧ x ≤ List.length c.fst ∧ ∀ (x : Nat), x ≤ List.length c.fst → (decide ((↑x : Int) < (↑(List.length c.fst) : Int)) = true → (((0 : Int) ≤ (↑x : Int) ∧ (↑x : Int) < (↑(List.length c.fst) : Int)) ∧ (0 : Int) ≤ (↑x : Int) ∧ (↑x : Int) < (↑(List.length c.fst) : Int)) ∧ (List.length (List.take x c.fst) + (1 : Nat)) * (16 : Nat) ≤ (140737488355328 : Nat) ∧ ((-9223372036854775808 : Int) ≤ (↑x : Int) + (1 : Int) ∧ (↑x : Int) + (1 : Int) ≤ (9223372036854775807 : Int)) ∧ ∃ (y : Nat), ((↑(List.length c.fst) : Int) = (↑(List.length c.fst) : Int) ∧ (↑x : Int) + (1 : Int) = (↑y : Int) ∧ c.1 = c.fst ∧ Value.slice none (0 : Nat) (0 : Nat) = Value.slice none (0 : Nat) (0 : Nat) ∧ Value.slice none (0 : Nat) (0 : Nat) = Value.slice none (0 : Nat) (0 : Nat) ∧ (0 : Int) = (0 : Int) ∧ (0 : Int) = (0 : Int) ∧ c.snd.1 = c.snd.fst ∧ c.snd.snd.fst = c.snd.snd.fst ∧ c.snd.snd.snd = c.snd.snd.snd ∧ List.take x c.fst ++ [((List.getD c.fst x ((0 : Int), (0 : Int))).fst, (List.getD c.fst x ((0 : Int), (0 : Int))).snd)] = List.take y c.fst) ∧ y ≤ List.length c.fst ∧ List.length c.fst - y < List.length c.fst - x) ∧ (decide ((↑x : Int) < (↑(List.length c.fst) : Int)) = false → (List.take x c.fst, c.snd.1, c.snd.snd.fst, c.snd.snd.snd) = c)) := by
 intros
 kernel_rfl
theorem wp19 (c : Cab) : wpF Tryz.prog G305 (ann0 (annOwn 102 166 26 37 c)) Tryz.f19 cOwn (c, ()) := by
 refine (vc19 c).mpr ?_
 intro h1 h2
 refine ⟨by show (0 + c.2.1.length) * 8 ≤ 140737488355328; omega, (0 : Nat), ⟨rfl, rfl, rfl, rfl, rfl, rfl, rfl, rfl, rfl, rfl, by simp⟩, Nat.zero_le _, fun (k : Nat) hk => ⟨fun h => ?_, fun h => ?_⟩⟩
 ·have hlt : k < c.1.length := by simpa using h
  have hl : (c.1.take k).length ≤ c.1.length := by simp; omega
  exact ⟨⟨by omega, by omega⟩, by omega, by omega, (k + 1 : Nat), ⟨rfl, by simp, rfl, rfl, rfl, rfl, rfl, rfl, rfl, rfl, take_snoc (d := (0, 0)) hlt⟩, by omega, by omega⟩
 ·have hge : ¬ k < c.1.length := by simpa using h
  rw [List.take_of_length_le (by omega)]
theorem ok19 [Sx.Dr] : Ok Tryz.prog 19 cOwn := ok_of_wp mixed g305 (by kernel_rfl) (by kernel_rfl) (fun xx => ann0 (annOwn 102 166 26 37 xx.1)) fun xx => wp19 xx.1
abbrev G306 : Gam := (19, cOwn) :: G305
theorem g306 [Sx.Dr] : GamOk Tryz.prog G306 := .cons ok19 g305
def cTold : Con := { args := [aC], ress := [(true, sCab 102)], owns := [], pre := fun (c, _) => [c.1.length ≤ 1000000, c.2.1.length ≤ 1000000], spec := fun (c, _) => (c, ()) }
theorem vc55 : ∀ (c : Cab), wpF Tryz.prog G306 (ann0 (annOwn (166 : TypeId) (102 : TypeId) (37 : TypeId) (26 : TypeId) c)) Tryz.f55 cTold (c, ()) = (List.length c.fst ≤ (1000000 : Nat) → List.length c.snd.fst ≤ (1000000 : Nat) → ((0 : Nat) + List.length c.snd.1) * (8 : Nat) ≤ (140737488355328 : Nat) ∧ ∃ (x : Nat), ((↑(List.length c.fst) : Int) = (↑(List.length c.fst) : Int) ∧ (0 : Int) = (↑x : Int) ∧ c.1 = c.fst ∧ Value.slice none (0 : Nat) (0 : Nat) = Value.slice none (0 : Nat) (0 : Nat) ∧ Value.slice none (0 : Nat) (0 : Nat) = Value.slice none (0 : Nat) (0 : Nat) ∧ (0 : Int) = (0 : Int) ∧ (0 : Int) = (0 : Int) ∧ c.snd.1 = c.snd.fst ∧ c.snd.snd.fst = c.snd.snd.fst ∧ c.snd.snd.snd = c.snd.snd.snd ∧ List.length (List.take x c.fst) = (0 : Nat)) ∧ x ≤ List.length c.fst ∧ ∀ (x : Nat), x ≤ List.length c.fst → (decide ((↑x : Int) < (↑(List.length c.fst) : Int)) = true → (((0 : Int) ≤ (↑x : Int) ∧ (↑x : Int) < (↑(List.length c.fst) : Int)) ∧ (0 : Int) ≤ (↑x : Int) ∧ (↑x : Int) < (↑(List.length c.fst) : Int)) ∧ (List.length (List.take x c.fst) + (1 : Nat)) * (16 : Nat) ≤ (140737488355328 : Nat) ∧ ((-9223372036854775808 : Int) ≤ (↑x : Int) + (1 : Int) ∧ (↑x : Int) + (1 : Int) ≤ (9223372036854775807 : Int)) ∧ ∃ (y : Nat), ((↑(List.length c.fst) : Int) = (↑(List.length c.fst) : Int) ∧ (↑x : Int) + (1 : Int) = (↑y : Int) ∧ c.1 = c.fst ∧ Value.slice none (0 : Nat) (0 : Nat) = Value.slice none (0 : Nat) (0 : Nat) ∧ Value.slice none (0 : Nat) (0 : Nat) = Value.slice none (0 : Nat) (0 : Nat) ∧ (0 : Int) = (0 : Int) ∧ (0 : Int) = (0 : Int) ∧ c.snd.1 = c.snd.fst ∧ c.snd.snd.fst = c.snd.snd.fst ∧ c.snd.snd.snd = c.snd.snd.snd ∧ List.take x c.fst ++ [((List.getD c.fst x ((0 : Int), (0 : Int))).fst, (List.getD c.fst x ((0 : Int), (0 : Int))).snd)] = List.take y c.fst) ∧ y ≤ List.length c.fst ∧ List.length c.fst - y < List.length c.fst - x) ∧ (decide ((↑x : Int) < (↑(List.length c.fst) : Int)) = false → (List.take x c.fst, c.snd.1, c.snd.snd.fst, c.snd.snd.snd) = c)) := by
 intros
 kernel_rfl
theorem wp55 (c : Cab) : wpF Tryz.prog G306 (ann0 (annOwn 166 102 37 26 c)) Tryz.f55 cTold (c, ()) := by
 refine (vc55 c).mpr ?_
 intro h1 h2
 refine ⟨by show (0 + c.2.1.length) * 8 ≤ 140737488355328; omega, (0 : Nat), ⟨rfl, rfl, rfl, rfl, rfl, rfl, rfl, rfl, rfl, rfl, by simp⟩, Nat.zero_le _, fun (k : Nat) hk => ⟨fun h => ?_, fun h => ?_⟩⟩
 ·have hlt : k < c.1.length := by simpa using h
  have hl : (c.1.take k).length ≤ c.1.length := by simp; omega
  exact ⟨⟨by omega, by omega⟩, by omega, by omega, (k + 1 : Nat), ⟨rfl, by simp, rfl, rfl, rfl, rfl, rfl, rfl, rfl, rfl, take_snoc (d := (0, 0)) hlt⟩, by omega, by omega⟩
 ·have hge : ¬ k < c.1.length := by simpa using h
  rw [List.take_of_length_le (by omega)]
theorem ok55 [Sx.Dr] : Ok Tryz.prog 55 cTold := ok_of_wp mixed g306 (by kernel_rfl) (by kernel_rfl) (fun xx => ann0 (annOwn 166 102 37 26 xx.1)) fun xx => wp55 xx.1
abbrev G307 : Gam := (55, cTold) :: G306
theorem g307 [Sx.Dr] : GamOk Tryz.prog G307 := .cons ok55 g306
abbrev annSame (T : TypeId) (s : Sch) (a b : List s.T) (J : Nat → Prop) : Ann := { X := Nat, σ := fun k => ⟨2, [(0, .one (.sl 0)), (1, .one (.sl 1)), (5, .one (.int .i64 k))], [(0, .imm T s a), (1, .imm T s b)]⟩, inv := fun k => k ≤ a.length ∧ a.length = b.length ∧ J k, mu := fun k => a.length - k }
theorem same_step {α : Type} {a b : List α} {k : Nat} {d : α} (h : a.take k = b.take k) (hl : a.length = b.length) (hk : k < a.length) (he : a.getD k d = b.getD k d) : a.take (k + 1) = b.take (k + 1) := by
 rw [← take_snoc (d := d) hk, ← take_snoc (d := d) (by omega), h, he]
def cSameT : Con := { args := [.val false (.list 186 sStp), .val false (.list 186 sStp)], ress := [Bo], owns := [], pre := fun (a, b, _) => [a.length ≤ 1000000], spec := fun (a, b, _) => (decide (a = b), ()) }
def cSameA : Con := { args := [.val false (.list 130 sArr), .val false (.list 130 sArr)], ress := [Bo], owns := [], pre := fun (a, b, _) => [a.length ≤ 1000000], spec := fun (a, b, _) => (decide (a = b), ()) }
def cSameI : Con := { args := [.val false (.list 3 sI), .val false (.list 3 sI)], ress := [Bo], owns := [], pre := fun (a, b, _) => [a.length ≤ 1000000], spec := fun (a, b, _) => (decide (a = b), ()) }
def vc31_0 (a b : List Stp) := ((0 : Int), (0 : Int), false, (0 : Int), (0 : Int))
theorem vc31 : ∀ (a b : List Stp), wpF Tryz.prog G307 (ann0 (annSame (186 : TypeId) sStp a b fun (k : Nat) => List.take k a = List.take k b)) Tryz.f31 cSameT (a, b, ()) = (List.length a ≤ (1000000 : Nat) → (((↑(List.length a) : Int) != (↑(List.length b) : Int)) = true → false = decide (a = b)) ∧ (((↑(List.length a) : Int) != (↑(List.length b) : Int)) = false → ∃ (x : Nat), ((0 : Int) = (↑x : Int) ∧ a = a ∧ b = b) ∧ (x ≤ List.length a ∧ List.length a = List.length b ∧ List.take x a = List.take x b) ∧ ∀ (x : Nat), x ≤ List.length a ∧ List.length a = List.length b ∧ List.take x a = List.take x b → (decide ((↑x : Int) < (↑(List.length a) : Int)) = true → (((0 : Int) ≤ (↑x : Int) ∧ (↑x : Int) < (↑(List.length a) : Int)) ∧ ((0 : Int) ≤ (↑x : Int) ∧ (↑x : Int) < (↑(List.length a) : Int)) ∧ ((0 : Int) ≤ (↑x : Int) ∧ (↑x : Int) < (↑(List.length b) : Int)) ∧ (0 : Int) ≤ (↑x : Int) ∧ (↑x : Int) < (↑(List.length b) : Int)) ∧ ((!((List.getD a x (vc31_0 a b)).fst == (List.getD b x (vc31_0 a b)).fst && ((List.getD a x (vc31_0 a b)).snd.fst == (List.getD b x (vc31_0 a b)).snd.fst && ((List.getD a x (vc31_0 a b)).snd.snd.fst == (List.getD b x (vc31_0 a b)).snd.snd.fst && ((List.getD a x (vc31_0 a b)).snd.snd.snd.fst == (List.getD b x (vc31_0 a b)).snd.snd.snd.fst && ((List.getD a x (vc31_0 a b)).snd.snd.snd.snd == (List.getD b x (vc31_0 a b)).snd.snd.snd.snd && true)))))) = true → false = decide (a = b)) ∧ ((!((List.getD a x (vc31_0 a b)).fst == (List.getD b x (vc31_0 a b)).fst && ((List.getD a x (vc31_0 a b)).snd.fst == (List.getD b x (vc31_0 a b)).snd.fst && ((List.getD a x (vc31_0 a b)).snd.snd.fst == (List.getD b x (vc31_0 a b)).snd.snd.fst && ((List.getD a x (vc31_0 a b)).snd.snd.snd.fst == (List.getD b x (vc31_0 a b)).snd.snd.snd.fst && ((List.getD a x (vc31_0 a b)).snd.snd.snd.snd == (List.getD b x (vc31_0 a b)).snd.snd.snd.snd && true)))))) = false → ((-9223372036854775808 : Int) ≤ (↑x : Int) + (1 : Int) ∧ (↑x : Int) + (1 : Int) ≤ (9223372036854775807 : Int)) ∧ ∃ (y : Nat), ((↑x : Int) + (1 : Int) = (↑y : Int) ∧ a = a ∧ b = b) ∧ (y ≤ List.length a ∧ List.length a = List.length b ∧ List.take y a = List.take y b) ∧ List.length a - y < List.length a - x)) ∧ (decide ((↑x : Int) < (↑(List.length a) : Int)) = false → true = decide (a = b)))) := by
 intros
 kernel_rfl
theorem wp31 (a b : List Stp) : wpF Tryz.prog G307 (ann0 (annSame 186 sStp a b fun k => a.take k = b.take k)) Tryz.f31 cSameT (a, b, ()) := by
 refine (vc31 a b).mpr ?_
 delta vc31_0
 intro hb
 refine ⟨fun h => ?_, fun h => ?_⟩
 ·have hne : ¬ a.length = b.length := by intro e; rw [e] at h; simp at h
  have : ¬ a = b := by rintro rfl; exact hne rfl
  simp [this]
 ·have hlen : a.length = b.length := by
   have : (a.length : Int) = b.length := by simpa using h
   omega
  refine ⟨(0 : Nat), ⟨rfl, rfl, rfl⟩, ⟨Nat.zero_le _, hlen, rfl⟩, fun (k : Nat) hk => ⟨fun h => ?_, fun h => ?_⟩⟩
  ·have hlt : k < a.length := by simpa using h
   refine ⟨by omega, fun h1 => ?_, fun h1 => ⟨by omega, (k + 1 : Nat), ⟨by simp, rfl, rfl⟩, ⟨by omega, hlen, ?_⟩, by omega⟩⟩
   ·have : ¬ a = b := by rintro rfl; simp at h1
    simp [this]
   ·have he : a.getD k (0, 0, false, 0, 0) = b.getD k (0, 0, false, 0, 0) := by
     simp only [Bool.not_eq_false', Bool.and_eq_true, beq_iff_eq, Bool.and_true] at h1
     exact Prod.ext h1.1 (Prod.ext h1.2.1 (Prod.ext h1.2.2.1 (Prod.ext h1.2.2.2.1 h1.2.2.2.2)))
    exact same_step hk.2.2 hlen hlt he
  ·have hlt : ¬ k < a.length := by simpa using h
   have hk' : k = a.length := by omega
   have h2 := hk.2.2
   rw [hk', List.take_length, hlen, List.take_length] at h2
   simp [h2]
theorem ok31 [Sx.Dr] : Ok Tryz.prog 31 cSameT := ok_of_wp mixed g307 (by kernel_rfl) (by kernel_rfl) (fun xx => ann0 (annSame 186 sStp xx.1 xx.2.1 fun k => xx.1.take k = xx.2.1.take k)) fun xx => wp31 xx.1 xx.2.1
abbrev G308 : Gam := (31, cSameT) :: G307
theorem g308 [Sx.Dr] : GamOk Tryz.prog G308 := .cons ok31 g307
def vc33_0 (a b : List Arr) := ((0 : Int), ByteArray.mk (Array.mk []), (0 : Int))
theorem vc33 : ∀ (a b : List Arr), wpF Tryz.prog G308 (ann0 (annSame (130 : TypeId) sArr a b fun (k : Nat) => List.take k a = List.take k b)) Tryz.f33 cSameA (a, b, ()) = (List.length a ≤ (1000000 : Nat) → (((↑(List.length a) : Int) != (↑(List.length b) : Int)) = true → false = decide (a = b)) ∧ (((↑(List.length a) : Int) != (↑(List.length b) : Int)) = false → ∃ (x : Nat), ((0 : Int) = (↑x : Int) ∧ a = a ∧ b = b) ∧ (x ≤ List.length a ∧ List.length a = List.length b ∧ List.take x a = List.take x b) ∧ ∀ (x : Nat), x ≤ List.length a ∧ List.length a = List.length b ∧ List.take x a = List.take x b → (decide ((↑x : Int) < (↑(List.length a) : Int)) = true → (((0 : Int) ≤ (↑x : Int) ∧ (↑x : Int) < (↑(List.length a) : Int)) ∧ ((0 : Int) ≤ (↑x : Int) ∧ (↑x : Int) < (↑(List.length a) : Int)) ∧ ((0 : Int) ≤ (↑x : Int) ∧ (↑x : Int) < (↑(List.length b) : Int)) ∧ (0 : Int) ≤ (↑x : Int) ∧ (↑x : Int) < (↑(List.length b) : Int)) ∧ ((!((List.getD a x (vc33_0 a b)).fst == (List.getD b x (vc33_0 a b)).fst && (ByteArray.toList (List.getD a x (vc33_0 a b)).snd.fst == ByteArray.toList (List.getD b x (vc33_0 a b)).snd.fst && ((List.getD a x (vc33_0 a b)).snd.snd == (List.getD b x (vc33_0 a b)).snd.snd && true)))) = true → false = decide (a = b)) ∧ ((!((List.getD a x (vc33_0 a b)).fst == (List.getD b x (vc33_0 a b)).fst && (ByteArray.toList (List.getD a x (vc33_0 a b)).snd.fst == ByteArray.toList (List.getD b x (vc33_0 a b)).snd.fst && ((List.getD a x (vc33_0 a b)).snd.snd == (List.getD b x (vc33_0 a b)).snd.snd && true)))) = false → ((-9223372036854775808 : Int) ≤ (↑x : Int) + (1 : Int) ∧ (↑x : Int) + (1 : Int) ≤ (9223372036854775807 : Int)) ∧ ∃ (y : Nat), ((↑x : Int) + (1 : Int) = (↑y : Int) ∧ a = a ∧ b = b) ∧ (y ≤ List.length a ∧ List.length a = List.length b ∧ List.take y a = List.take y b) ∧ List.length a - y < List.length a - x)) ∧ (decide ((↑x : Int) < (↑(List.length a) : Int)) = false → true = decide (a = b)))) := by
 intros
 kernel_rfl
theorem wp33 (a b : List Arr) : wpF Tryz.prog G308 (ann0 (annSame 130 sArr a b fun k => a.take k = b.take k)) Tryz.f33 cSameA (a, b, ()) := by
 refine (vc33 a b).mpr ?_
 delta vc33_0
 intro hb
 refine ⟨fun h => ?_, fun h => ?_⟩
 ·have hne : ¬ a.length = b.length := by intro e; rw [e] at h; simp at h
  have : ¬ a = b := by rintro rfl; exact hne rfl
  simp [this]
 ·have hlen : a.length = b.length := by
   have : (a.length : Int) = b.length := by simpa using h
   omega
  refine ⟨(0 : Nat), ⟨rfl, rfl, rfl⟩, ⟨Nat.zero_le _, hlen, rfl⟩, fun (k : Nat) hk => ⟨fun h => ?_, fun h => ?_⟩⟩
  ·have hlt : k < a.length := by simpa using h
   refine ⟨by omega, fun h1 => ?_, fun h1 => ⟨by omega, (k + 1 : Nat), ⟨by simp, rfl, rfl⟩, ⟨by omega, hlen, ?_⟩, by omega⟩⟩
   ·have : ¬ a = b := by rintro rfl; simp at h1
    simp [this]
   ·have he : a.getD k (0, ⟨⟨[]⟩⟩, 0) = b.getD k (0, ⟨⟨[]⟩⟩, 0) := by
     simp only [Bool.not_eq_false', Bool.and_eq_true, beq_iff_eq, Bool.and_true] at h1
     exact Prod.ext h1.1 (Prod.ext (ba_ext h1.2.1) h1.2.2)
    exact same_step hk.2.2 hlen hlt he
  ·have hlt : ¬ k < a.length := by simpa using h
   have hk' : k = a.length := by omega
   have h2 := hk.2.2
   rw [hk', List.take_length, hlen, List.take_length] at h2
   simp [h2]
theorem ok33 [Sx.Dr] : Ok Tryz.prog 33 cSameA := ok_of_wp mixed g308 (by kernel_rfl) (by kernel_rfl) (fun xx => ann0 (annSame 130 sArr xx.1 xx.2.1 fun k => xx.1.take k = xx.2.1.take k)) fun xx => wp33 xx.1 xx.2.1
abbrev G309 : Gam := (33, cSameA) :: G308
theorem g309 [Sx.Dr] : GamOk Tryz.prog G309 := .cons ok33 g308
theorem vc83 : ∀ (a b : List Int), wpF Tryz.prog G309 (ann0 (annSame (3 : TypeId) sI a b fun (k : Nat) => List.take k a = List.take k b)) Tryz.f83 cSameI (a, b, ()) = (List.length a ≤ (1000000 : Nat) → (((↑(List.length a) : Int) != (↑(List.length b) : Int)) = true → false = decide (a = b)) ∧ (((↑(List.length a) : Int) != (↑(List.length b) : Int)) = false → ∃ (x : Nat), ((0 : Int) = (↑x : Int) ∧ a = a ∧ b = b) ∧ (x ≤ List.length a ∧ List.length a = List.length b ∧ List.take x a = List.take x b) ∧ ∀ (x : Nat), x ≤ List.length a ∧ List.length a = List.length b ∧ List.take x a = List.take x b → (decide ((↑x : Int) < (↑(List.length a) : Int)) = true → (((0 : Int) ≤ (↑x : Int) ∧ (↑x : Int) < (↑(List.length a) : Int)) ∧ ((0 : Int) ≤ (↑x : Int) ∧ (↑x : Int) < (↑(List.length a) : Int)) ∧ ((0 : Int) ≤ (↑x : Int) ∧ (↑x : Int) < (↑(List.length b) : Int)) ∧ (0 : Int) ≤ (↑x : Int) ∧ (↑x : Int) < (↑(List.length b) : Int)) ∧ ((List.getD a x (0 : Int) != List.getD b x (0 : Int)) = true → false = decide (a = b)) ∧ ((List.getD a x (0 : Int) != List.getD b x (0 : Int)) = false → ((-9223372036854775808 : Int) ≤ (↑x : Int) + (1 : Int) ∧ (↑x : Int) + (1 : Int) ≤ (9223372036854775807 : Int)) ∧ ∃ (y : Nat), ((↑x : Int) + (1 : Int) = (↑y : Int) ∧ a = a ∧ b = b) ∧ (y ≤ List.length a ∧ List.length a = List.length b ∧ List.take y a = List.take y b) ∧ List.length a - y < List.length a - x)) ∧ (decide ((↑x : Int) < (↑(List.length a) : Int)) = false → true = decide (a = b)))) := by
 intros
 kernel_rfl
theorem wp83 (a b : List Int) : wpF Tryz.prog G309 (ann0 (annSame 3 sI a b fun k => a.take k = b.take k)) Tryz.f83 cSameI (a, b, ()) := by
 refine (vc83 a b).mpr ?_
 intro hb
 refine ⟨fun h => ?_, fun h => ?_⟩
 ·have hne : ¬ a.length = b.length := by intro e; rw [e] at h; simp at h
  have : ¬ a = b := by rintro rfl; exact hne rfl
  simp [this]
 ·have hlen : a.length = b.length := by
   have : (a.length : Int) = b.length := by simpa using h
   omega
  refine ⟨(0 : Nat), ⟨rfl, rfl, rfl⟩, ⟨Nat.zero_le _, hlen, rfl⟩, fun (k : Nat) hk => ⟨fun h => ?_, fun h => ?_⟩⟩
  ·have hlt : k < a.length := by simpa using h
   refine ⟨by omega, fun h1 => ?_, fun h1 => ⟨by omega, (k + 1 : Nat), ⟨by simp, rfl, rfl⟩, ⟨by omega, hlen, ?_⟩, by omega⟩⟩
   ·have : ¬ a = b := by rintro rfl; simp at h1
    simp [this]
   ·have he : a.getD k 0 = b.getD k 0 := by
     simpa using h1
    exact same_step hk.2.2 hlen hlt he
  ·have hlt : ¬ k < a.length := by simpa using h
   have hk' : k = a.length := by omega
   have h2 := hk.2.2
   rw [hk', List.take_length, hlen, List.take_length] at h2
   simp [h2]
theorem ok83 [Sx.Dr] : Ok Tryz.prog 83 cSameI := ok_of_wp mixed g309 (by kernel_rfl) (by kernel_rfl) (fun xx => ann0 (annSame 3 sI xx.1 xx.2.1 fun k => xx.1.take k = xx.2.1.take k)) fun xx => wp83 xx.1 xx.2.1
abbrev G310 : Gam := (83, cSameI) :: G309
theorem g310 [Sx.Dr] : GamOk Tryz.prog G310 := .cons ok83 g309
def cSameC : Con := { args := [aCR, aCR], ress := [Bo], owns := [], pre := fun (a, b, _) => [a.1.length ≤ 1000000, a.2.1.length ≤ 1000000], spec := fun (a, b, _) => (decide (a = b), ()) }
abbrev annSC (a b : Cab) : Ann := { X := Nat, σ := fun k => ⟨6, [(2, .one (.ptr 4 0)), (3, .one (.ptr 5 0)), (5, .one (.int .i64 k))], [(0, .imm 102 sPt a.1), (1, .imm 3 sI a.2.1), (2, .imm 102 sPt b.1), (3, .imm 3 sI b.2.1), (4, .box 26 [.sl 0, .sl 1, .int .i64 a.2.2.1, .int .i64 a.2.2.2]), (5, .box 26 [.sl 2, .sl 3, .int .i64 b.2.2.1, .int .i64 b.2.2.2])]⟩, inv := fun k => k ≤ a.1.length ∧ a.1.length = b.1.length ∧ a.2 = b.2 ∧ a.1.take k = b.1.take k, mu := fun k => a.1.length - k }
theorem vc75 : ∀ (a b : Cab), wpF Tryz.prog G310 (ann0 (annSC a b)) Tryz.f75 cSameC (a, b, ()) = (List.length a.fst ≤ (1000000 : Nat) → List.length a.snd.fst ≤ (1000000 : Nat) → ((!(a.snd.snd.fst == b.snd.snd.fst && (a.snd.snd.snd == b.snd.snd.snd && true))) = false → List.length a.snd.1 ≤ (1000000 : Nat)) ∧ ((bif bif !(a.snd.snd.fst == b.snd.snd.fst && (a.snd.snd.snd == b.snd.snd.snd && true)) then true else !decide (a.snd.1 = b.snd.1) then true else (↑(List.length a.fst) : Int) != (↑(List.length b.fst) : Int)) = true → false = decide (a = b)) ∧ ((bif bif !(a.snd.snd.fst == b.snd.snd.fst && (a.snd.snd.snd == b.snd.snd.snd && true)) then true else !decide (a.snd.1 = b.snd.1) then true else (↑(List.length a.fst) : Int) != (↑(List.length b.fst) : Int)) = false → ∃ (x : Nat), ((0 : Int) = (↑x : Int) ∧ a.1 = a.fst ∧ a.snd.1 = a.snd.fst ∧ b.1 = b.fst ∧ b.snd.1 = b.snd.fst ∧ a.snd.snd.fst = a.snd.snd.fst ∧ a.snd.snd.snd = a.snd.snd.snd ∧ b.snd.snd.fst = b.snd.snd.fst ∧ b.snd.snd.snd = b.snd.snd.snd) ∧ (x ≤ List.length a.fst ∧ List.length a.fst = List.length b.fst ∧ a.snd = b.snd ∧ List.take x a.fst = List.take x b.fst) ∧ ∀ (x : Nat), x ≤ List.length a.fst ∧ List.length a.fst = List.length b.fst ∧ a.snd = b.snd ∧ List.take x a.fst = List.take x b.fst → (decide ((↑x : Int) < (↑(List.length a.fst) : Int)) = true → (((0 : Int) ≤ (↑x : Int) ∧ (↑x : Int) < (↑(List.length a.fst) : Int)) ∧ ((0 : Int) ≤ (↑x : Int) ∧ (↑x : Int) < (↑(List.length a.fst) : Int)) ∧ ((0 : Int) ≤ (↑x : Int) ∧ (↑x : Int) < (↑(List.length b.fst) : Int)) ∧ (0 : Int) ≤ (↑x : Int) ∧ (↑x : Int) < (↑(List.length b.fst) : Int)) ∧ ((!((List.getD a.fst x ((0 : Int), (0 : Int))).fst == (List.getD b.fst x ((0 : Int), (0 : Int))).fst && ((List.getD a.fst x ((0 : Int), (0 : Int))).snd == (List.getD b.fst x ((0 : Int), (0 : Int))).snd && true))) = true → false = decide (a = b)) ∧ ((!((List.getD a.fst x ((0 : Int), (0 : Int))).fst == (List.getD b.fst x ((0 : Int), (0 : Int))).fst && ((List.getD a.fst x ((0 : Int), (0 : Int))).snd == (List.getD b.fst x ((0 : Int), (0 : Int))).snd && true))) = false → ((-9223372036854775808 : Int) ≤ (↑x : Int) + (1 : Int) ∧ (↑x : Int) + (1 : Int) ≤ (9223372036854775807 : Int)) ∧ ∃ (y : Nat), ((↑x : Int) + (1 : Int) = (↑y : Int) ∧ a.1 = a.fst ∧ a.snd.1 = a.snd.fst ∧ b.1 = b.fst ∧ b.snd.1 = b.snd.fst ∧ a.snd.snd.fst = a.snd.snd.fst ∧ a.snd.snd.snd = a.snd.snd.snd ∧ b.snd.snd.fst = b.snd.snd.fst ∧ b.snd.snd.snd = b.snd.snd.snd) ∧ (y ≤ List.length a.fst ∧ List.length a.fst = List.length b.fst ∧ a.snd = b.snd ∧ List.take y a.fst = List.take y b.fst) ∧ List.length a.fst - y < List.length a.fst - x)) ∧ (decide ((↑x : Int) < (↑(List.length a.fst) : Int)) = false → true = decide (a = b)))) := by
 intros
 kernel_rfl
theorem wp75 (a b : Cab) : wpF Tryz.prog G310 (ann0 (annSC a b)) Tryz.f75 cSameC (a, b, ()) := by
 refine (vc75 a b).mpr ?_
 intro h1 h2
 have key : (bif bif !(a.2.2.1 == b.2.2.1 && (a.2.2.2 == b.2.2.2 && true)) then true else !decide (a.2.1 = b.2.1) then true else ((a.1.length : Int) != b.1.length)) = !decide (a.2 = b.2 ∧ a.1.length = b.1.length) := by
  by_cases e1 : a.2.2.1 = b.2.2.1
  ·by_cases e2 : a.2.2.2 = b.2.2.2
   ·by_cases e3 : a.2.1 = b.2.1
    ·have e : a.2 = b.2 := Prod.ext e3 (Prod.ext e1 e2)
     by_cases e4 : a.1.length = b.1.length
     ·simp [e, e4]
     ·have : ((a.1.length : Int) != b.1.length) = true := by rw [bne_iff_ne]; omega
      simp [e, e4]
      omega
    ·have e : ¬ a.2 = b.2 := fun q => e3 (by rw [q])
     simp [e, e1, e2, e3]
   ·have e : ¬ a.2 = b.2 := fun q => e2 (by rw [q])
    simp [e, e2]
  ·have e : ¬ a.2 = b.2 := fun q => e1 (by rw [q])
   simp [e, e1]
 rw [key]
 refine ⟨fun _ => h2, fun h => ?_, fun h => ?_⟩
 ·have h : ¬ (a.2 = b.2 ∧ a.1.length = b.1.length) := of_decide_eq_false (by simpa only [Bool.not_eq_true'] using h)
  have : ¬ a = b := by rintro rfl; exact h ⟨rfl, rfl⟩
  simp [this]
 ·have h : a.2 = b.2 ∧ a.1.length = b.1.length := by simpa using h
  refine ⟨(0 : Nat), ⟨rfl, rfl, rfl, rfl, rfl, rfl, rfl, rfl, rfl⟩, ⟨Nat.zero_le _, h.2, h.1, rfl⟩, fun (k : Nat) hk => ⟨fun q => ?_, fun q => ?_⟩⟩
  ·have hlt : k < a.1.length := by simpa using q
   refine ⟨⟨by omega, by omega, by omega, by omega⟩, fun q1 => ?_, fun q1 => ⟨by omega, (k + 1 : Nat), ⟨by simp, rfl, rfl, rfl, rfl, rfl, rfl, rfl, rfl⟩, ⟨by omega, h.2, h.1, ?_⟩, by omega⟩⟩
   ·have : ¬ a = b := by rintro rfl; simp at q1
    simp [this]
   ·have he : a.1.getD k (0, 0) = b.1.getD k (0, 0) := by
     simp only [Bool.not_eq_false', Bool.and_eq_true, beq_iff_eq, Bool.and_true] at q1
     exact Prod.ext q1.1 q1.2
    exact same_step hk.2.2.2 h.2 hlt he
  ·have hge : ¬ k < a.1.length := by simpa using q
   have hk' : k = a.1.length := by omega
   have q2 := hk.2.2.2
   rw [hk', List.take_length, h.2, List.take_length] at q2
   have : a = b := Prod.ext q2 h.1
   simp [this]
theorem ok75 [Sx.Dr] : Ok Tryz.prog 75 cSameC := ok_of_wp mixed g310 (by kernel_rfl) (by kernel_rfl) (fun xx => ann0 (annSC xx.1 xx.2.1)) fun xx => wp75 xx.1 xx.2.1
abbrev G311 : Gam := (75, cSameC) :: G310
theorem g311 [Sx.Dr] : GamOk Tryz.prog G311 := .cons ok75 g310
def feq (x y : Nat) : Bool := FloatKind.f32.format.order x y == some .eq
def sameF : List Nat → List Nat → Bool
 | [], [] => true
 | x :: a, y :: b => feq x y && sameF a b
 | _, _ => false
abbrev sFl : Sch := .flt .f32
theorem sameF_len : ∀ {a b : List Nat}, sameF a b = true → a.length = b.length
 | [], [], _ => rfl
 | [], _ :: _, h => by cases h
 | _ :: _, [], h => by cases h
 | x :: a, y :: b, h => by
  simp only [sameF, Bool.and_eq_true] at h
  simp only [List.length_cons, sameF_len h.2]
def sameJ (a b : List Nat) (k : Nat) : Prop := sameF a b = sameF (a.drop k) (b.drop k)
def cSameF : Con := { args := [.val false (.list 164 sFl), .val false (.list 164 sFl)], ress := [Bo], owns := [], pre := fun (a, b, _) => [a.length ≤ 1000000], spec := fun (a, b, _) => (sameF a b, ()) }
theorem vc35 : ∀ (a b : List Nat), wpF Tryz.prog G311 (ann0 (annSame (164 : TypeId) sFl a b (sameJ a b))) Tryz.f35 cSameF (a, b, ()) = (List.length a ≤ (1000000 : Nat) → (((↑(List.length a) : Int) != (↑(List.length b) : Int)) = true → false = sameF a b) ∧ (((↑(List.length a) : Int) != (↑(List.length b) : Int)) = false → ∃ (x : Nat), ((0 : Int) = (↑x : Int) ∧ a = a ∧ b = b) ∧ (x ≤ List.length a ∧ List.length a = List.length b ∧ sameJ a b x) ∧ ∀ (x : Nat), x ≤ List.length a ∧ List.length a = List.length b ∧ sameJ a b x → (decide ((↑x : Int) < (↑(List.length a) : Int)) = true → (((0 : Int) ≤ (↑x : Int) ∧ (↑x : Int) < (↑(List.length a) : Int)) ∧ ((0 : Int) ≤ (↑x : Int) ∧ (↑x : Int) < (↑(List.length a) : Int)) ∧ ((0 : Int) ≤ (↑x : Int) ∧ (↑x : Int) < (↑(List.length b) : Int)) ∧ (0 : Int) ≤ (↑x : Int) ∧ (↑x : Int) < (↑(List.length b) : Int)) ∧ ((Ieee.Format.order (Ieee.Format.mk (8 : Nat) (23 : Nat)) (List.getD a x (0 : Nat)) (List.getD b x (0 : Nat)) != some Ordering.eq) = true → false = sameF a b) ∧ ((Ieee.Format.order (Ieee.Format.mk (8 : Nat) (23 : Nat)) (List.getD a x (0 : Nat)) (List.getD b x (0 : Nat)) != some Ordering.eq) = false → ((-9223372036854775808 : Int) ≤ (↑x : Int) + (1 : Int) ∧ (↑x : Int) + (1 : Int) ≤ (9223372036854775807 : Int)) ∧ ∃ (y : Nat), ((↑x : Int) + (1 : Int) = (↑y : Int) ∧ a = a ∧ b = b) ∧ (y ≤ List.length a ∧ List.length a = List.length b ∧ sameJ a b y) ∧ List.length a - y < List.length a - x)) ∧ (decide ((↑x : Int) < (↑(List.length a) : Int)) = false → true = sameF a b))) := by
 intros
 kernel_rfl
theorem wp35 (a b : List Nat) : wpF Tryz.prog G311 (ann0 (annSame 164 sFl a b (sameJ a b))) Tryz.f35 cSameF (a, b, ()) := by
 refine (vc35 a b).mpr ?_
 intro hb
 refine ⟨fun h => ?_, fun h => ?_⟩
 ·cases e : sameF a b with
  | false => rfl
  | true => have := sameF_len e; rw [this] at h; simp at h
 ·have hlen : a.length = b.length := by
   have : (a.length : Int) = b.length := by simpa using h
   omega
  refine ⟨(0 : Nat), ⟨rfl, rfl, rfl⟩, ⟨Nat.zero_le _, hlen, rfl⟩, fun (k : Nat) hk => ⟨fun h => ?_, fun h => ?_⟩⟩
  ·have hlt : k < a.length := by simpa using h
   have hj : sameF a b = (feq (a.getD k 0) (b.getD k 0) && sameF (a.drop (k + 1)) (b.drop (k + 1))) := by
    have := hk.2.2
    unfold sameJ at this
    rw [this, drop_cons (d := 0) hlt, drop_cons (l := b) (k := k) (d := 0) (by omega)]
    rfl
   refine ⟨⟨by omega, by omega, by omega, by omega⟩, fun h1 => ?_, fun h1 => ⟨by omega, (k + 1 : Nat), ⟨by simp, rfl, rfl⟩, ⟨by omega, hlen, ?_⟩, by omega⟩⟩
   ·have h1 : feq (a.getD k 0) (b.getD k 0) = false := by
     unfold feq
     have h1 := bne_iff_ne.1 h1
     rw [beq_eq_false_iff_ne]; exact h1
    rw [hj, h1]; rfl
   ·have h1 : feq (a.getD k 0) (b.getD k 0) = true := by
     unfold feq
     have h1 := bne_eq_false_iff_eq.1 h1
     rw [beq_iff_eq]; exact h1
    unfold sameJ
    rw [hj, h1]; rfl
  ·have hlt : ¬ k < a.length := by simpa using h
   have h2 := hk.2.2
   unfold sameJ at h2
   rw [h2, List.drop_of_length_le (by omega), List.drop_of_length_le (by omega)]
   rfl
theorem ok35 [Sx.Dr] : Ok Tryz.prog 35 cSameF := ok_of_wp mixed g311 (by kernel_rfl) (by kernel_rfl) (fun xx => ann0 (annSame 164 sFl xx.1 xx.2.1 (sameJ xx.1 xx.2.1))) fun xx => wp35 xx.1 xx.2.1
abbrev G312 : Gam := (35, cSameF) :: G311
theorem g312 [Sx.Dr] : GamOk Tryz.prog G312 := .cons ok35 g311
def numS (have_ e bad want : Int) : Bool := (e == bad) && ((bad != 0 && have_ == 0) || (bad == 0 && have_ == want))
def cNum : Con := { args := [aI, aI, aI, aI], ress := [Bo], owns := [], pre := fun _ => [], spec := fun (h, e, b, w, _) => (numS h e b w, ()) }
theorem vc48 : ∀ (h e b w : Int), wpF Tryz.prog G312 (na ()) Tryz.f48 cNum (h, e, b, w, ()) = ((bif e == b then bif bif b != (0 : Int) then h == (0 : Int) else false then true else bif b == (0 : Int) then h == w else false else false) = numS h e b w) := by
 intros
 kernel_rfl
theorem wp48 (h e b w : Int) : wpF Tryz.prog G312 (na ()) Tryz.f48 cNum (h, e, b, w, ()) := by
 refine (vc48 h e b w).mpr ?_
 unfold numS
 cases (e == b) <;> cases (b != 0) <;> cases (h == 0) <;> cases (b == 0) <;> rfl
theorem ok48 [Sx.Dr] : Ok Tryz.prog 48 cNum := ok_of_wp mixed g312 (by kernel_rfl) (by kernel_rfl) na fun xx => wp48 xx.1 xx.2.1 xx.2.2.1 xx.2.2.2.1
abbrev G313 : Gam := (48, cNum) :: G312
theorem g313 [Sx.Dr] : GamOk Tryz.prog G313 := .cons ok48 g312
def largeS (n : Int) : Bool := decide (16384 < n) || decide (n < -16384)
def cLarge : Con := { args := [aI], ress := [Bo], owns := [], pre := fun _ => [], spec := fun (n, _) => (largeS n, ()) }
theorem vc101 : ∀ (n : Int), wpF Tryz.prog G313 (na ()) Tryz.f101 cLarge (n, ()) = ((bif decide ((16384 : Int) < n) then true else decide (n < (-16384 : Int))) = largeS n) := by
 intros
 kernel_rfl
theorem wp101 (n : Int) : wpF Tryz.prog G313 (na ()) Tryz.f101 cLarge (n, ()) := by
 refine (vc101 n).mpr ?_
 unfold largeS
 cases decide (16384 < n) <;> rfl
theorem ok101 [Sx.Dr] : Ok Tryz.prog 101 cLarge := ok_of_wp mixed g313 (by kernel_rfl) (by kernel_rfl) na fun xx => wp101 xx.1
abbrev G314 : Gam := (101, cLarge) :: G313
theorem g314 [Sx.Dr] : GamOk Tryz.prog G314 := .cons ok101 g313
open Ieee in
theorem read_word (neg : Bool) {rung : Nat} (h : rung ≤ single.infRung) : ∀ s t, single.read (single.word neg rung) ≠ .nan s t := by
 have e1 : single.infRung = 2139095040 := by decide
 have e2 : single.signWeight = 2147483648 := by decide
 have e3 : single.binade = 8388608 := by decide
 have e4 : single.word neg rung % single.signWeight = rung := by
  unfold Format.word
  rw [e2]
  rw [e1] at h
  cases neg
  ·rw [if_neg (by decide)]; omega
  ·rw [if_pos rfl]; omega
 intro s t
 unfold Format.read
 simp only [e4]
 rw [e1, e3]
 rw [e1] at h
 by_cases h1 : rung < 8388608
 ·rw [if_pos h1]; exact fun q => by cases q
 ·rw [if_neg h1]
  by_cases h2 : rung < 2139095040
  ·rw [if_pos h2]; exact fun q => by cases q
  ·rw [if_neg h2, if_pos (by omega)]; exact fun q => by cases q
open Ieee in
theorem read_near (neg : Bool) (mag : Nat) (place : Int) : ∀ s t, single.read (single.nearest neg mag place) ≠ .nan s t := by
 unfold Format.nearest
 split
 ·exact read_word neg (Nat.zero_le _)
 ·exact read_word neg (Nat.min_le_right _ _)
open Ieee in
theorem order_self {d : Datum} (h : ∀ s t, d ≠ .nan s t) : d.order d = some .eq := by
 cases d with
 | nan s t => exact absurd rfl (h s t)
 | infinity s => simp [Datum.order]
 | number s m i => simp [Datum.order]
open Ieee in
theorem quot_some {d : Datum} (h : ∀ s t, d ≠ .nan s t) (n : Nat) (s : Bool) (m : Nat) (i : Int) (hm : m ≠ 0) : ∃ e, d.quotient n (.number s m i) = some e ∧ ∀ s t, e ≠ .nan s t := by
 cases d with
 | nan s t => exact absurd rfl (h s t)
 | infinity s => exact ⟨_, rfl, fun _ _ q => by cases q⟩
 | number s m i =>
  simp only [Datum.quotient]
  rw [if_neg hm]
  exact ⟨_, rfl, fun _ _ q => by cases q⟩
def smpS (n : Int) : Nat := (FloatKind.f32.format.div (FloatKind.f32.nearest n) 1098907648).getD 0
open Ieee in
theorem smp_some (n : Int) : (FloatKind.f32.format.div (FloatKind.f32.nearest n) 1098907648).isSome = true ∧ feq (smpS n) (smpS n) = true := by
 have e16 : single.read 1098907648 = .number false 8388608 (-19) := by kernel_rfl
 have h := read_near (decide (n < 0)) n.natAbs 0
 obtain ⟨e, he, hn⟩ := quot_some h 25 false 8388608 (-19) (by decide)
 have hd : FloatKind.f32.format.div (FloatKind.f32.nearest n) 1098907648 = some (single.write e) := by
  show ((single.read (single.nearest (decide (n < 0)) n.natAbs 0)).quotient (single.fractionBits + 2) (single.read 1098907648)).map single.write = _
  rw [e16]
  have : single.fractionBits + 2 = 25 := rfl
  rw [this, he]; rfl
 refine ⟨by rw [hd]; rfl, ?_⟩
 have hs : smpS n = single.write e := by unfold smpS; rw [hd]; rfl
 unfold feq
 rw [beq_iff_eq, hs]
 refine order_self ?_
 cases e with
 | nan s t => exact absurd rfl (hn s t)
 | infinity s => exact read_word s (Nat.le_refl _)
 | number s m i => exact read_near s m i
def cSmp : Con := { args := [aI], ress := [(false, sFl)], owns := [], pre := fun _ => [], spec := fun (n, _) => (smpS n, ()) }
theorem vc102 : ∀ (n : Int), wpF Tryz.prog G314 (na ()) Tryz.f102 cSmp (n, ()) = (Option.isSome (Ieee.Format.div (Ieee.Format.mk (8 : Nat) (23 : Nat)) (FloatKind.nearest FloatKind.f32 n) (1098907648 : Nat)) = true ∧ Option.getD (Ieee.Format.div (Ieee.Format.mk (8 : Nat) (23 : Nat)) (FloatKind.nearest FloatKind.f32 n) (1098907648 : Nat)) (0 : Nat) = smpS n) := by
 intros
 kernel_rfl
theorem wp102 (n : Int) : wpF Tryz.prog G314 (na ()) Tryz.f102 cSmp (n, ()) := by
 refine (vc102 n).mpr ?_
 exact ⟨(smp_some n).1, rfl⟩
theorem ok102 [Sx.Dr] : Ok Tryz.prog 102 cSmp := ok_of_wp mixed g314 (by kernel_rfl) (by kernel_rfl) na fun xx => wp102 xx.1
abbrev G315 : Gam := (102, cSmp) :: G314
theorem g315 [Sx.Dr] : GamOk Tryz.prog G315 := .cons ok102 g314
def lineC : Cab := ([(1000, 4), (3000, 6)], [2], 4, 0)
def faultC : Flt := (0, 1, 100, 16)
def cLineC : Con := { args := [], ress := [(true, sCab 166)], owns := [], pre := fun _ => [], spec := fun _ => (lineC, ()) }
theorem vc81 : wpF Tryz.prog G315 (na ()) Tryz.f81 cLineC () = (([((1000 : Int), (4 : Int)), ((3000 : Int), (6 : Int))], [(2 : Int)], (4 : Int), (0 : Int)) = lineC) := by
 intros
 kernel_rfl
theorem wp81  : wpF Tryz.prog G315 (na ()) Tryz.f81 cLineC () := by
 refine vc81.mpr ?_
 rfl
theorem ok81 [Sx.Dr] : Ok Tryz.prog 81 cLineC := ok_of_wp mixed g315 (by kernel_rfl) (by kernel_rfl) na fun xx => wp81 
abbrev G316 : Gam := (81, cLineC) :: G315
theorem g316 [Sx.Dr] : GamOk Tryz.prog G316 := .cons ok81 g315
def cFaultC : Con := { args := [], ress := [(true, sFlt)], owns := [], pre := fun _ => [], spec := fun _ => (faultC, ()) }
theorem vc82 : wpF Tryz.prog G316 (na ()) Tryz.f82 cFaultC () = (((0 : Int), (1 : Int), (100 : Int), (16 : Int)) = faultC) := by
 intros
 kernel_rfl
theorem wp82  : wpF Tryz.prog G316 (na ()) Tryz.f82 cFaultC () := by
 refine vc82.mpr ?_
 rfl
theorem ok82 [Sx.Dr] : Ok Tryz.prog 82 cFaultC := ok_of_wp mixed g316 (by kernel_rfl) (by kernel_rfl) na fun xx => wp82 
set_option maxHeartbeats 20000000
abbrev Key : Type := Int × ByteArray
def hitK (n : Int) (k : Key) (w : Stp) : Prop := (w.2.1 = 0 ∨ w.2.1 = n) ∧ w.1 = k.1 ∧ endW w = k.2
instance (n : Int) (k : Key) (w : Stp) : Decidable (hitK n k w) := inferInstanceAs (Decidable ((w.2.1 = 0 ∨ w.2.1 = n) ∧ w.1 = k.1 ∧ endW w = k.2))
def sumK (n : Int) (k : Key) : List Stp → Int
 | [] => 0
 | w :: r => (if hitK n k w then w.2.2.2.2 else 0) + sumK n k r
def hasK (n : Int) (k : Key) (l : List Stp) : Prop := ∃ w ∈ l, hitK n k w
theorem sumK_append (n : Int) (k : Key) (l r : List Stp) : sumK n k (l ++ r) = sumK n k l + sumK n k r := by
 induction l with
 | nil => simp [sumK]
 | cons w l ih => simp only [List.cons_append, sumK, ih]; omega
theorem sumK_one (n : Int) (k : Key) (w : Stp) : sumK n k [w] = if hitK n k w then w.2.2.2.2 else 0 := by simp [sumK]
theorem sumK_perm {n : Int} {k : Key} {l r : List Stp} (h : l.Perm r) : sumK n k l = sumK n k r := by
 induction h with
 | nil => rfl
 | cons x _ ih => simp only [sumK, ih]
 | swap x y l => simp only [sumK]; omega
 | trans _ _ h1 h2 => rw [h1, h2]
theorem hasK_perm {n : Int} {k : Key} {l r : List Stp} (h : l.Perm r) : hasK n k l ↔ hasK n k r :=
 ⟨fun ⟨w, hw, hk⟩ => ⟨w, h.mem_iff.1 hw, hk⟩, fun ⟨w, hw, hk⟩ => ⟨w, h.mem_iff.2 hw, hk⟩⟩
theorem sumK_none {n : Int} {k : Key} : ∀ {l : List Stp}, ¬ hasK n k l → sumK n k l = 0
 | [], _ => rfl
 | w :: r, h => by
  simp only [sumK]
  rw [if_neg fun q => h ⟨w, by simp, q⟩, sumK_none fun ⟨x, hx, hk⟩ => h ⟨x, by simp [hx], hk⟩]; rfl
theorem hasK_snoc {n : Int} {k : Key} {l : List Stp} {w : Stp} : hasK n k (l ++ [w]) ↔ hasK n k l ∨ hitK n k w := by
 constructor
 ·rintro ⟨x, hx, hk⟩
  rcases List.mem_append.1 hx with hx | hx
  ·exact .inl ⟨x, hx, hk⟩
  ·rw [List.mem_singleton.1 hx] at hk; exact .inr hk
 ·rintro (⟨x, hx, hk⟩ | hk)
  ·exact ⟨x, by simp [hx], hk⟩
  ·exact ⟨w, by simp, hk⟩
theorem snoc_ind {α : Type} {Q : List α → Prop} (h0 : Q []) (h1 : ∀ l x, Q l → Q (l ++ [x])) (l : List α) : Q l := by
 have : ∀ r : List α, Q r.reverse := fun r => by
  induction r with
  | nil => exact h0
  | cons x r ih => rw [List.reverse_cons]; exact h1 _ _ ih
 simpa using this l.reverse
theorem mp_get_ne {k k' : Arr} (hk : k ≠ k') (u : Int) : ∀ m : AM, mpGet sArr k' (mpSet sArr k u m) = mpGet sArr k' m
 | [] => by
  simp only [mpSet, mpGet]
  rw [if_neg fun h => hk (keyA_eq.1 h).symm]
 | x :: r => by
  simp only [mpSet]
  split
  ·rename_i h
   have e := keyA_eq.1 h
   simp only [mpGet]
   rw [if_neg fun h => hk (keyA_eq.1 h).symm, if_neg fun h => hk (by rw [e]; exact (keyA_eq.1 h).symm)]
  ·rename_i h
   simp only [mpGet]
   rw [mp_get_ne hk u r]
theorem sumsM_get (c : Cab) (l : List Stp) : ∀ (k : Arr) (v : Int), k.2.2 = 0 → (mpGet sArr k (sumsM c l) = some v ↔ hasK c.1.length (k.1, k.2.1) l ∧ v = sumK c.1.length (k.1, k.2.1) l) := by
 refine snoc_ind (Q := fun l => ∀ (k : Arr) (v : Int), k.2.2 = 0 → (mpGet sArr k (sumsM c l) = some v ↔ hasK c.1.length (k.1, k.2.1) l ∧ v = sumK c.1.length (k.1, k.2.1) l)) ?_ ?_ l
 ·intro k v _
  exact ⟨fun h => by simp [sumsM, mpGet] at h, fun ⟨⟨w, hw, _⟩, _⟩ => by simp at hw⟩
 ·intro l w ih k v hk
  rw [sumsM_snoc, hasK_snoc, sumK_append, sumK_one]
  have key : ∀ e : ByteArray, endW w = e → (w.2.1 = 0 ∨ w.2.1 = c.1.length) → hitM c (sumsM c l) w = addM (sumsM c l) (w.1, e, 0) w.2.2.2.2 → (mpGet sArr k (hitM c (sumsM c l) w) = some v ↔ (hasK c.1.length (k.1, k.2.1) l ∨ hitK c.1.length (k.1, k.2.1) w) ∧ v = sumK c.1.length (k.1, k.2.1) l + if hitK c.1.length (k.1, k.2.1) w then w.2.2.2.2 else 0) := by
   intro e he hh hm
   rw [hm]
   unfold addM
   by_cases hq : hitK c.1.length (k.1, k.2.1) w
   ·have ek : (w.1, e, 0) = k := by
     obtain ⟨_, h1, h2⟩ := hq
     exact Prod.ext h1 (Prod.ext (he.symm.trans h2) hk.symm)
    rw [ek, mp_get_set, if_pos hq]
    cases hg : mpGet sArr k (sumsM c l) with
    | none =>
     have : ¬ hasK c.1.length (k.1, k.2.1) l := fun q => by
      have := (ih k _ hk).2 ⟨q, rfl⟩
      rw [hg] at this; cases this
     rw [sumK_none this]
     simp only [Option.getD_none, Option.some.injEq]
     exact ⟨fun h => ⟨.inr hq, h.symm⟩, fun h => h.2.symm⟩
    | some u =>
     have := (ih k u hk).1 hg
     rw [← this.2]
     simp only [Option.getD_some, Option.some.injEq]
     exact ⟨fun h => ⟨.inr hq, h.symm⟩, fun h => h.2.symm⟩
   ·rw [mp_get_ne (fun q => hq ⟨hh, by rw [← q], by rw [← q]; exact he⟩), if_neg hq, ih k v hk, Int.add_zero]
    exact ⟨fun h => ⟨.inl h.1, h.2⟩, fun h => ⟨h.1.resolve_right hq, h.2⟩⟩
  by_cases h0 : w.2.1 = 0
  ·exact key sA (by unfold endW; rw [if_pos h0]) (.inl h0) (by unfold hitM; rw [if_pos h0])
  ·by_cases h1 : w.2.1 = c.1.length
   ·exact key sB (by unfold endW; rw [if_neg h0]) (.inr h1) (by unfold hitM; rw [if_neg h0, if_pos h1])
   ·have hq : ¬ hitK c.1.length (k.1, k.2.1) w := fun q => q.1.elim h0 h1
    rw [if_neg hq, Int.add_zero]
    unfold hitM
    rw [if_neg h0, if_neg h1, ih k v hk]
    exact ⟨fun h => ⟨.inl h.1, h.2⟩, fun h => ⟨h.1.resolve_right hq, h.2⟩⟩
theorem mp_mem_get {k : Arr} {v : Int} : ∀ {m : AM}, (m.Pairwise fun a b => a.1 ≠ b.1) → (k, v) ∈ m → mpGet sArr k m = some v
 | [], _, h => by simp at h
 | x :: r, hp, h => by
  replace hp := List.pairwise_cons.1 hp
  simp only [mpGet]
  rcases List.mem_cons.1 h with h | h
  ·subst h; rw [if_pos (keyA_refl _)]
  ·rw [if_neg fun q => hp.1 _ h (keyA_eq.1 q).symm]
   exact mp_mem_get hp.2 h
theorem sumsM_mem {c : Cab} {l : List Stp} (h : ∀ w ∈ l, wvH c w) (a : Arr) : a ∈ (sumsM c l).map rowA ↔ hasK c.1.length (a.1, a.2.1) l ∧ a.2.2 = sumK c.1.length (a.1, a.2.1) l := by
 have ho := sumsM_ok h
 rw [← sumsM_get c l (a.1, a.2.1, 0) a.2.2 rfl]
 constructor
 ·intro hm
  obtain ⟨p, hp, rfl⟩ := List.mem_map.1 hm
  have h0 := ho.2.2.2 p hp
  have : (rowA p).1 = p.1.1 ∧ (rowA p).2.1 = p.1.2.1 ∧ (rowA p).2.2 = p.2 := ⟨rfl, rfl, rfl⟩
  rw [this.1, this.2.1, this.2.2]
  have e : (p.1.1, p.1.2.1, (0 : Int)) = p.1 := Prod.ext rfl (Prod.ext rfl h0.symm)
  rw [e]
  exact mp_mem_get ho.2.2.1 hp
 ·intro hg
  exact List.mem_map.2 ⟨_, mp_get_mem hg, rfl⟩
theorem srtA_snoc {o : List Arr} {x : Arr} (h : srtA o) (hx : ∀ a ∈ o, ltA a x) : srtA (o ++ [x]) := by
 refine List.pairwise_append.2 ⟨h, by simp, fun a ha b hb => ?_⟩
 rw [List.mem_singleton.1 hb]; exact hx a ha
theorem snoc_of_ne {o : List Arr} (h : o ≠ []) : o = o.take (o.length - 1) ++ [lastA o] := by
 have hp : 0 < o.length := List.length_pos_iff.2 h
 unfold lastA
 rw [take_snoc (by omega), show o.length - 1 + 1 = o.length by omega, List.take_length]
theorem key_le {x w : Stp} (hx : 0 ≤ x.2.1) (h : ¬ ltP w x) (u v : Int) : ¬ ltA (w.1, endW w, u) (x.1, endW x, v) := by
 rintro (q | ⟨q1, q2⟩)
 ·exact h (.inl q)
 ·have q1 : w.1 = x.1 := q1
  have q2 : bLt (endW w) (endW x) = true := q2
  unfold endW at q2
  by_cases hw0 : w.2.1 = 0
  ·by_cases hx0 : x.2.1 = 0
   ·rw [if_pos hw0, if_pos hx0] at q2
    unfold bLt at q2; rw [bl_irrefl] at q2; cases q2
   ·exact h (.inr ⟨q1, .inl (by omega)⟩)
  ·rw [if_neg hw0] at q2
   split at q2
   ·revert q2; unfold bLt; rw [Lib.toList_data, Lib.toList_data]; decide
   ·unfold bLt at q2; rw [bl_irrefl] at q2; cases q2
theorem refA_spec {c : Cab} (l : List Stp) : (∀ w ∈ l, 0 ≤ w.2.1) → srtd l → srtA (refA c l) ∧ ∀ a : Arr, a ∈ refA c l ↔ hasK c.1.length (a.1, a.2.1) l ∧ a.2.2 = sumK c.1.length (a.1, a.2.1) l := by
 refine snoc_ind (Q := fun l => (∀ w ∈ l, 0 ≤ w.2.1) → srtd l → srtA (refA c l) ∧ ∀ a : Arr, a ∈ refA c l ↔ hasK c.1.length (a.1, a.2.1) l ∧ a.2.2 = sumK c.1.length (a.1, a.2.1) l) ?_ ?_ l
 ·intro _ _
  exact ⟨by simp [refA, srtA], fun a => ⟨fun h => by simp [refA] at h, fun ⟨⟨w, hw, _⟩, _⟩ => by simp at hw⟩⟩
 ·intro l w ih h0 hs
  replace hs := List.pairwise_append.1 hs
  obtain ⟨i1, i2⟩ := ih (fun x hx => h0 x (by simp [hx])) hs.1
  have hw : ∀ x ∈ l, ¬ ltP w x := fun x hx => hs.2.2 x hx w (by simp)
  rw [refA_snoc]
  unfold stepR'
  by_cases hh : w.2.1 ≠ 0 ∧ w.2.1 ≠ c.1.length
  ·rw [if_pos hh]
   refine ⟨i1, fun a => ?_⟩
   have hq : ¬ hitK c.1.length (a.1, a.2.1) w := fun q => q.1.elim hh.1 hh.2
   rw [hasK_snoc, sumK_append, sumK_one, if_neg hq, Int.add_zero, i2]
   exact ⟨fun h => ⟨.inl h.1, h.2⟩, fun h => ⟨h.1.resolve_right hq, h.2⟩⟩
  ·rw [if_neg hh]
   have hh : w.2.1 = 0 ∨ w.2.1 = c.1.length := by
    by_cases q : w.2.1 = 0
    ·exact .inl q
    ·by_cases q' : w.2.1 = c.1.length
     ·exact .inr q'
     ·exact absurd ⟨q, q'⟩ hh
   have hself : ∀ k : Key, hitK c.1.length k w ↔ k = (w.1, endW w) := fun k => ⟨fun q => (Prod.ext q.2.1 q.2.2).symm, fun q => by rw [q]; exact ⟨hh, rfl, rfl⟩⟩
   have hle : ∀ a ∈ refA c l, ¬ ltA (w.1, endW w, 0) a := fun a ha => by
    obtain ⟨⟨x, hx, hk⟩, _⟩ := (i2 a).1 ha
    have := key_le (h0 x (by simp [hx])) (hw x hx) 0 a.2.2
    have e : (x.1, endW x, a.2.2) = a := Prod.ext hk.2.1 (Prod.ext hk.2.2 rfl)
    rwa [e] at this
   generalize refA c l = o at *
   by_cases hc : o ≠ [] ∧ (lastA o).1 = w.1 ∧ (lastA o).2.1 = endW w
   ·rw [if_pos hc]
    have eo := snoc_of_ne hc.1
    have hp : 0 < o.length := List.length_pos_iff.2 hc.1
    have es : o.set (o.length - 1) (w.1, endW w, (lastA o).2.2 + w.2.2.2.2) = o.take (o.length - 1) ++ [(w.1, endW w, (lastA o).2.2 + w.2.2.2.2)] := by
     rw [List.set_eq_take_append_cons_drop, if_pos (by omega), List.drop_of_length_le (by omega)]
    rw [es]
    have hlast : lastA o ∈ o := last_mem hc.1
    have hl := (i2 (lastA o)).1 hlast
    rw [eo] at i1
    replace i1 := List.pairwise_append.1 i1
    have hlt : ∀ a ∈ o.take (o.length - 1), ltA a (lastA o) := fun a ha => i1.2.2 a ha _ (by simp)
    have ltk : ∀ a, ltA a (lastA o) → ∀ v, ltA a (w.1, endW w, v) := fun a q v => by
     unfold ltA at q ⊢; rw [hc.2.1, hc.2.2] at q; exact q
    refine ⟨srtA_snoc i1.1 fun a ha => ltk a (hlt a ha) _, fun a => ?_⟩
    rw [hasK_snoc, sumK_append, sumK_one]
    by_cases hq : hitK c.1.length (a.1, a.2.1) w
    ·have hk := (hself _).1 hq
     have k1 : a.1 = w.1 := congrArg Prod.fst hk
     have k2 : a.2.1 = endW w := congrArg Prod.snd hk
     rw [if_pos hq, k1, k2]
     rw [hc.2.1, hc.2.2] at hl
     rw [← hl.2]
     constructor
     ·intro ha
      rcases List.mem_append.1 ha with ha | ha
      ·exfalso
       have := ltk a (hlt a ha) 0
       unfold ltA at this
       rw [k1, k2] at this
       rcases this with q | ⟨_, q⟩
       ·exact absurd q (Int.lt_irrefl _)
       ·unfold bLt at q; rw [bl_irrefl] at q; cases q
      ·rw [List.mem_singleton.1 ha]
       exact ⟨.inl hl.1, rfl⟩
     ·rintro ⟨_, h2⟩
      refine List.mem_append.2 (.inr (List.mem_singleton.2 ?_))
      exact Prod.ext k1 (Prod.ext k2 h2)
    ·rw [if_neg hq, Int.add_zero]
     have hi := i2 a
     constructor
     ·intro ha
      rcases List.mem_append.1 ha with ha | ha
      ·have := hi.1 (List.mem_of_mem_take ha)
       exact ⟨.inl this.1, this.2⟩
      ·rw [List.mem_singleton.1 ha] at hq
       exact absurd ((hself _).2 rfl) hq
     ·rintro ⟨h1, h2⟩
      have := hi.2 ⟨h1.resolve_right hq, h2⟩
      rw [eo] at this
      rcases List.mem_append.1 this with ha | ha
      ·exact List.mem_append.2 (.inl ha)
      ·rw [List.mem_singleton.1 ha] at hq
       exact absurd ((hself _).2 (Prod.ext hc.2.1 hc.2.2)) hq
   ·rw [if_neg hc]
    have hlt : ∀ a ∈ o, ltA a (w.1, endW w, w.2.2.2.2) := by
     intro a ha
     refine ltA_tri (hle a ha) fun q => ?_
     have q1 : a.1 = w.1 := q.1
     have q2 : a.2.1 = endW w := q.2
     have hne : o ≠ [] := fun e => by rw [e] at ha; simp at ha
     have hl := hle _ (last_mem hne)
     refine hc ⟨hne, ?_⟩
     by_cases hkk : (lastA o).1 = w.1 ∧ (lastA o).2.1 = endW w
     ·exact hkk
     ·exfalso
      have h3 : ltA (lastA o) (w.1, endW w, 0) := ltA_tri hl hkk
      rw [snoc_of_ne hne] at ha i1
      replace i1 := List.pairwise_append.1 i1
      have h4 : ¬ ltA (lastA o) a := by
       rcases List.mem_append.1 ha with ha | ha
       ·exact fun q => ltA_irrefl _ (ltA_trans q (i1.2.2 a ha _ (by simp)))
       ·rw [List.mem_singleton.1 ha]; exact ltA_irrefl _
      refine h4 ?_
      unfold ltA at h3 ⊢
      rw [q1, q2]; exact h3
    refine ⟨srtA_snoc i1 fun a ha => hlt a ha, fun a => ?_⟩
    rw [hasK_snoc, sumK_append, sumK_one]
    by_cases hq : hitK c.1.length (a.1, a.2.1) w
    ·have hk := (hself _).1 hq
     have k1 : a.1 = w.1 := congrArg Prod.fst hk
     have k2 : a.2.1 = endW w := congrArg Prod.snd hk
     have hno : ¬ hasK c.1.length (a.1, a.2.1) l := fun q => by
      have hm := (i2 (a.1, a.2.1, sumK c.1.length (a.1, a.2.1) l)).2 ⟨q, rfl⟩
      have := hlt _ hm
      unfold ltA at this
      dsimp only at this
      rw [k1, k2] at this
      rcases this with q | ⟨_, q⟩
      ·exact absurd q (Int.lt_irrefl _)
      ·unfold bLt at q; rw [bl_irrefl] at q; cases q
     rw [if_pos hq, sumK_none hno, Int.zero_add]
     constructor
     ·intro ha
      rcases List.mem_append.1 ha with ha | ha
      ·exact absurd ((i2 a).1 ha).1 hno
      ·have := List.mem_singleton.1 ha
       exact ⟨.inr hq, by rw [this]⟩
     ·rintro ⟨_, h2⟩
      exact List.mem_append.2 (.inr (List.mem_singleton.2 (Prod.ext k1 (Prod.ext k2 h2))))
    ·rw [if_neg hq, Int.add_zero]
     constructor
     ·intro ha
      rcases List.mem_append.1 ha with ha | ha
      ·have := (i2 a).1 ha
       exact ⟨.inl this.1, this.2⟩
      ·rw [List.mem_singleton.1 ha] at hq
       exact absurd ((hself _).2 rfl) hq
     ·rintro ⟨h1, h2⟩
      exact List.mem_append.2 (.inl ((i2 a).2 ⟨h1.resolve_right hq, h2⟩))
theorem srtA_nodup {l : List Arr} (h : srtA l) : l.Nodup := List.Pairwise.imp (fun {a b} q e => by subst e; exact ltA_irrefl _ q) h
theorem srtA_ext {l l' : List Arr} (h : srtA l) (h' : srtA l') (he : ∀ a, a ∈ l ↔ a ∈ l') : l = l' :=
 srtA_unique ((List.perm_ext_iff_of_nodup (srtA_nodup h) (srtA_nodup h')).2 he) h h'
theorem sortT_perm (l : List Stp) : (sortT l).Perm l := insAll_perm l []
theorem sortT_sorted (l : List Stp) : srtd (sortT l) := insAll_sorted l .nil
theorem refA_eq {c : Cab} {l : List Stp} (h : ∀ w ∈ l, wvH c w) : refA c (sortT l) = sortA ((sumsM c l).map rowA) := by
 have hp := sortT_perm l
 obtain ⟨r1, r2⟩ := refA_spec (c := c) (sortT l) (fun w hw => (h w (hp.mem_iff.1 hw)).2.1.1) (sortT_sorted l)
 refine srtA_ext r1 (sortA_sorted (rowA_ne (sumsM_ok h))) fun a => ?_
 rw [r2, (sortA_perm _).mem_iff, sumsM_mem h, hasK_perm hp, sumK_perm hp]
theorem arrS_eq {c : Cab} {f : Flt} {win : Int} (h : fltV c f) : refA c (runR c f win) = arrS c f win := refA_eq fun w hw => ((waves_H h).1 w hw).1
theorem arrS_mem {c : Cab} {f : Flt} {win : Int} (h : fltV c f) (a : Arr) : a ∈ arrS c f win ↔ hasK c.1.length (a.1, a.2.1) (wavesS c f win) ∧ a.2.2 = sumK c.1.length (a.1, a.2.1) (wavesS c f win) := by
 rw [← sumsM_mem fun w hw => ((waves_H h).1 w hw).1]
 exact (sortA_perm _).mem_iff
theorem arrS_bd {c : Cab} {f : Flt} {win : Int} (h : fltV c f) : arrB (arrS c f win) ∧ (arrS c f win).length ≤ 4374 := by
 have hH : ∀ w ∈ wavesS c f win, wvH c w := fun w hw => ((waves_H h).1 w hw).1
 have hL := (waves_H (win := win) h).2
 have ho := sumsM_ok hH
 refine ⟨fun a ha => ?_, ?_⟩
 ·obtain ⟨p, hp, rfl⟩ := List.mem_map.1 ((sortA_perm _).mem_iff.1 ha)
  have := ho.2.1 p hp
  show -80000000000000 ≤ p.2 ∧ p.2 ≤ 80000000000000
  omega
 ·unfold arrS
  rw [(sortA_perm _).length_eq, List.length_map]
  have := ho.1; omega
set_option maxHeartbeats 20000000
def tree (c : Cab) (last : Int) : Nat → Stp → List Stp
 | 0, _ => []
 | n + 1, w => if last < w.1 then [] else w :: (childS c w).flatMap (tree c last n)
theorem child_hop {c : Cab} {w x : Stp} (h : x ∈ childS c w) : x.2.2.2.1 = w.2.2.2.1 + 1 ∧ w.2.2.2.1 ≠ 6 := by
 unfold childS at h
 split at h
 ·simp at h
 ·rename_i h6
  refine ⟨?_, h6⟩
  split at h
  ·exact sent_hop h
  ·split at h
   ·exact sent_hop h
   ·rcases List.mem_append.1 h with h | h
    ·exact sent_hop h
    ·exact sent_hop h
theorem flatMap_congr' {α β : Type} {l : List α} {f g : α → List β} (h : ∀ x ∈ l, f x = g x) : l.flatMap f = l.flatMap g := by
 induction l with
 | nil => rfl
 | cons x l ih => rw [List.flatMap_cons, List.flatMap_cons, h x (by simp), ih fun y hy => h y (by simp [hy])]
theorem tree_fuel {c : Cab} {last : Int} : ∀ {n m : Nat} {w : Stp}, (0 ≤ w.2.2.2.1 ∧ w.2.2.2.1 ≤ 6) → (7 : Int) ≤ n + w.2.2.2.1 → (7 : Int) ≤ m + w.2.2.2.1 → tree c last n w = tree c last m w
 | 0, _, _, h, h1, _ => by omega
 | _ + 1, 0, _, h, _, h2 => by omega
 | n + 1, m + 1, w, h, h1, h2 => by
  simp only [tree]
  split
  ·rfl
  ·refine congrArg _ (flatMap_congr' fun x hx => ?_)
   have := child_hop hx
   exact tree_fuel (by omega) (by omega) (by omega)
theorem bfs_perm {c : Cab} {last : Int} (hv : cabV c) : ∀ {n : Nat} {l : List Stp}, (∀ w ∈ l, wvH c w) → wtL l ≤ n → (bfs c last n l).Perm (l.flatMap (tree c last 7))
 | 0, [], _, _ => by simp [bfs]
 | 0, w :: r, _, h => by have := wt_pos w; simp only [wtL] at h; omega
 | n + 1, [], _, _ => by simp [bfs]
 | n + 1, w :: r, hl, h1 => by
  have hp := wt_pos w
  have hw := hl w (by simp)
  have hc := child_wt (c := c) hw.1
  simp only [wtL] at h1
  simp only [bfs, List.flatMap_cons]
  have e : tree c last 7 w = if last < w.1 then [] else w :: (childS c w).flatMap (tree c last 6) := rfl
  rw [e]
  split
  ·exact bfs_perm hv (fun x hx => hl x (by simp [hx])) (by omega)
  ·have ih := bfs_perm (last := last) hv (l := r ++ childS c w) (n := n) (fun x hx => app_H hv hl x hx) (by rw [wtL_append]; omega)
   rw [List.flatMap_append] at ih
   have e2 : (childS c w).flatMap (tree c last 7) = (childS c w).flatMap (tree c last 6) := flatMap_congr' fun x hx => by
    have h3 := child_hop hx
    have h4 := (child_H hv hw hx).1
    have := hw.1
    exact tree_fuel h4 (by omega) (by omega)
   rw [e2] at ih
   exact (ih.trans List.perm_append_comm).cons w
theorem waves_perm {c : Cab} {f : Flt} {win : Int} (h : fltV c f) : (wavesS c f win).Perm ((initS c f).flatMap (tree c (f.2.2.1 + win) 7)) := bfs_perm h.1 (initS_H h) (Nat.le_refl _)
theorem tree_len {c : Cab} {last : Int} : ∀ (n : Nat) (w : Stp), (tree c last n w).length + 1 ≤ 2 ^ n
 | 0, _ => by simp [tree]
 | n + 1, w => by
  simp only [tree]
  have hp : 0 < 2 ^ n := Nat.pow_pos (by omega)
  rw [Nat.pow_succ]
  split
  ·simp; omega
  ·have key : ∀ l : List Stp, (l.flatMap (tree c last n)).length + l.length ≤ l.length * 2 ^ n := by
    intro l
    induction l with
    | nil => simp
    | cons x l ih =>
     have := tree_len (c := c) (last := last) n x
     rw [List.flatMap_cons, List.length_append, List.length_cons, Nat.add_mul, Nat.one_mul]; omega
   have h1 := key (childS c w)
   have h2 := child_len c w
   have h3 : (childS c w).length * 2 ^ n ≤ (childS c w).length * 2 ^ n + (2 - (childS c w).length) * (2 ^ n - 1) := Nat.le_add_right _ _
   simp only [List.length_cons]
   have : (childS c w).length = 0 ∨ (childS c w).length = 1 ∨ (childS c w).length = 2 := by omega
   rcases this with e | e | e <;> rw [e] at h1 <;> omega
theorem waves_len {c : Cab} {f : Flt} {win : Int} (h : fltV c f) : (wavesS c f win).length ≤ 254 := by
 rw [(waves_perm h).length_eq]
 simp only [initS, List.flatMap_cons, List.flatMap_nil, List.append_nil, List.length_append]
 have h1 := tree_len (c := c) (last := f.2.2.1 + win) 7 (f.2.2.1 + f.2.1, f.1, false, 0, f.2.2.2 * 262144)
 have h2 := tree_len (c := c) (last := f.2.2.1 + win) 7 (f.2.2.1 + ((c.1.getD f.1.toNat (0, 0)).2 - f.2.1), f.1 + 1, true, 0, f.2.2.2 * 262144)
 omega
set_option maxHeartbeats 20000000
set_option maxHeartbeats 20000000
def turnF (c : Cab) (f : Flt) : Flt := (c.1.length - 1 - f.1, (c.1.getD f.1.toNat (0, 0)).2 - f.2.1, f.2.2.1, f.2.2.2)
theorem arr_tick {c : Cab} {f : Flt} {win : Int} (h : fltV c f) {a : Arr} (ha : a ∈ arrS c f win) : (0 ≤ a.1 ∧ a.1 ≤ 100448) ∧ a.1 ≤ f.2.2.1 + win ∧ -4363686772736 ≤ a.2.2 ∧ a.2.2 ≤ 4363686772736 := by
 obtain ⟨⟨x, hx, hk⟩, hs⟩ := (arrS_mem h a).1 ha
 have hH := (waves_H h).1 x hx
 have e : x.1 = a.1 := hk.2.1
 have b3 := hH.1.2.2.1
 have b0 := hH.1.1
 have hb : ∀ l : List Stp, (∀ w ∈ l, wvH c w) → -(17179869184 * (l.length : Int)) ≤ sumK c.1.length (a.1, a.2.1) l ∧ sumK c.1.length (a.1, a.2.1) l ≤ 17179869184 * l.length := by
  intro l
  induction l with
  | nil => intro _; simp [sumK]
  | cons w r ih =>
   intro hl
   have h1 := ih fun x hx => hl x (by simp [hx])
   have h2 := wvH_ht (hl w (by simp))
   simp only [sumK, List.length_cons]
   split <;> omega
 have hl := waves_len (win := win) h
 have := hb (wavesS c f win) fun w hw => ((waves_H h).1 w hw).1
 rw [← hs] at this
 omega
set_option maxHeartbeats 20000000
set_option maxHeartbeats 20000000
theorem firstS_all : ∀ {l : List Int}, (∀ x ∈ l, x = 0) → firstS l = 0
 | [], _ => rfl
 | x :: l, h => by
  rw [firstS_cons, if_pos (h x (by simp))]
  exact firstS_all fun y hy => h y (by simp [hy])
theorem cabV_S {c : Cab} (h : cabV c) : cabS c = 0 := by
 obtain ⟨v1, v2, v3, v4, v5, v6, v7⟩ := h
 unfold cabS
 rw [if_neg (by omega), if_neg (by omega), if_neg (by omega)]
 refine firstS_all fun x hx => ?_
 simp only [List.mem_cons, List.not_mem_nil, or_false] at hx
 rcases hx with rfl | rfl | rfl | rfl
 ·refine firstS_all fun y hy => ?_
  obtain ⟨s, hs, rfl⟩ := List.mem_map.1 hy
  have := v3 s hs
  unfold secS
  rw [within_zero.2 ⟨this.1, this.2.1⟩, within_zero.2 ⟨this.2.2.1, this.2.2.2⟩]; rfl
 ·rfl
 ·refine firstS_all fun y hy => ?_
  obtain ⟨s, hs, rfl⟩ := List.mem_map.1 hy
  exact within_zero.2 (v5 s hs)
 ·unfold facS
  rw [within_zero.2 v6, within_zero.2 v7]; rfl
theorem fltV_S {c : Cab} {f : Flt} (h : fltV c f) : fltS c f = 0 := by
 obtain ⟨hv, g1, g2, g3, g4, g5⟩ := h
 unfold fltS
 rw [if_pos (cabV_S hv), if_pos (secE_zero.2 g1), if_neg g5]
 unfold offE
 rw [within_zero.2 ⟨g2.1, by omega⟩, within_zero.2 g3, within_zero.2 g4]; rfl
theorem winS_zero {c : Cab} {f : Flt} {win : Int} (h : fltV c f) (hw : 0 ≤ win ∧ win ≤ 1000) : winS c f win = 0 := by
 unfold winS
 rw [fltV_S h, within_zero.2 hw]; rfl
def partQ (x : Int × Int) (t : Int) : Int := (x.1 * t).tdiv x.2
def splitL (l : List (Int × Int)) (s : Nat) (t : Int) : List (Int × Int) := l.take s ++ (partQ (l.getD s (0, 0)) t, t) :: ((l.getD s (0, 0)).1 - partQ (l.getD s (0, 0)) t, (l.getD s (0, 0)).2 - t) :: l.drop (s + 1)
def splitC (c : Cab) (s : Nat) (t : Int) : Cab := (splitL c.1 s t, c.2.1.take s ++ 0 :: c.2.1.drop s, c.2.2)
theorem partQ_bd {x : Int × Int} {t : Int} (hx : 1 ≤ x.1 ∧ x.1 ≤ 100000 ∧ 1 ≤ x.2 ∧ x.2 ≤ 64) (ht : 1 ≤ t ∧ t < x.2) : 0 ≤ partQ x t ∧ partQ x t < x.1 := by
 have h0 : 0 ≤ x.1 * t := Int.mul_nonneg (by omega) (by omega)
 unfold partQ
 rw [Int.tdiv_eq_ediv_of_nonneg h0]
 refine ⟨Int.ediv_nonneg h0 (by omega), ?_⟩
 refine Int.ediv_lt_of_lt_mul (by omega) ?_
 exact Int.mul_lt_mul_of_pos_left ht.2 (by omega)
set_option maxHeartbeats 20000000
set_option maxHeartbeats 20000000
set_option pp.deepTerms true
set_option pp.maxSteps 1000000
abbrev G95 : Gam := (17, cShort) :: G94
theorem g95 [Sx.Dr] : GamOk Tryz.prog G95 := .cons ok17 g94
abbrev G96 : Gam := (40, cShortA) :: G95
theorem g96 [Sx.Dr] : GamOk Tryz.prog G96 := .cons ok40 g95
abbrev G97 : Gam := (32, (cConv 163 186 sStp)) :: G96
theorem g97 [Sx.Dr] : GamOk Tryz.prog G97 := .cons ok32 g96
abbrev G98 : Gam := (34, (cConv 107 130 sArr)) :: G97
theorem g98 [Sx.Dr] : GamOk Tryz.prog G98 := .cons ok34 g97
abbrev G99 : Gam := (42, (cConv 130 107 sArr)) :: G98
theorem g99 [Sx.Dr] : GamOk Tryz.prog G99 := .cons ok42 g98
abbrev G100 : Gam := (19, cOwn) :: G99
theorem g100 [Sx.Dr] : GamOk Tryz.prog G100 := .cons ok19 g99
abbrev G101 : Gam := (55, cTold) :: G100
theorem g101 [Sx.Dr] : GamOk Tryz.prog G101 := .cons ok55 g100
abbrev G102 : Gam := (31, cSameT) :: G101
theorem g102 [Sx.Dr] : GamOk Tryz.prog G102 := .cons ok31 g101
abbrev G103 : Gam := (33, cSameA) :: G102
theorem g103 [Sx.Dr] : GamOk Tryz.prog G103 := .cons ok33 g102
abbrev G104 : Gam := (83, cSameI) :: G103
theorem g104 [Sx.Dr] : GamOk Tryz.prog G104 := .cons ok83 g103
abbrev G105 : Gam := (75, cSameC) :: G104
theorem g105 [Sx.Dr] : GamOk Tryz.prog G105 := .cons ok75 g104
abbrev G106 : Gam := (35, cSameF) :: G105
theorem g106 [Sx.Dr] : GamOk Tryz.prog G106 := .cons ok35 g105
abbrev G107 : Gam := (48, cNum) :: G106
theorem g107 [Sx.Dr] : GamOk Tryz.prog G107 := .cons ok48 g106
abbrev G108 : Gam := (101, cLarge) :: G107
theorem g108 [Sx.Dr] : GamOk Tryz.prog G108 := .cons ok101 g107
abbrev G109 : Gam := (102, cSmp) :: G108
theorem g109 [Sx.Dr] : GamOk Tryz.prog G109 := .cons ok102 g108
abbrev G110 : Gam := (81, cLineC) :: G109
theorem g110 [Sx.Dr] : GamOk Tryz.prog G110 := .cons ok81 g109
abbrev G111 : Gam := (82, cFaultC) :: G110
theorem g111 [Sx.Dr] : GamOk Tryz.prog G111 := .cons ok82 g110
def clrE (c : Cab) (f : Flt) (p : Pln) : Int := firstS [fltS c f, plnS p]
def openAt (l : List Arr) (e : ByteArray) (p : Pln) : Option Int := openS l e (((findA e l).getD dA).1 + p.2.1) p.2.2.1 p.2.2.2
def bothT (l : List Arr) (p : Pln) : Bool := tripS l sA p.1.1 && tripS l sB p.1.2
def clrG (l : List Arr) (p : Pln) : Int × Int := if bothT l p = true ∧ (openAt l sA p).isSome = true ∧ (openAt l sB p).isSome = true then ((openAt l sA p).getD 0, (openAt l sB p).getD 0) else (0, 0)
def clrGE (l : List Arr) (p : Pln) : Int := if bothT l p = true then (if (openAt l sA p).isSome = true ∧ (openAt l sB p).isSome = true then 0 else 32) else 31
def clrF (c : Cab) (f : Flt) (p : Pln) : Int × Int := if clrE c f p = 0 then clrG (arrS c f p.2.2.2) p else (0, 0)
def clrEE (c : Cab) (f : Flt) (p : Pln) : Int := if clrE c f p = 0 then clrGE (arrS c f p.2.2.2) p else clrE c f p
theorem clrE_zero {c : Cab} {f : Flt} {p : Pln} (h : clrE c f p = 0) : fltV c f ∧ winS c f p.2.2.2 = 0 ∧ (0 ≤ p.2.1 ∧ p.2.1 ≤ 100000) ∧ (0 ≤ p.2.2.2 ∧ p.2.2.2 ≤ 1000) := by
 have hz := firstS_zero (show firstS [fltS c f, plnS p] = 0 from h)
 simp only [List.mem_cons, List.not_mem_nil, or_false, forall_eq_or_imp, forall_eq] at hz
 obtain ⟨a1, a2⟩ := hz
 have hz := firstS_zero (show firstS [_, _, _, _, _] = 0 from a2)
 simp only [List.mem_cons, List.not_mem_nil, or_false, forall_eq_or_imp, forall_eq] at hz
 have b3 := within_zero.1 hz.2.2.1
 have b5 := within_zero.1 hz.2.2.2.2
 have hf := (fltS_V a1).2
 exact ⟨hf, winS_zero hf b5, b3, b5⟩
theorem find_tick {c : Cab} {f : Flt} {win : Int} (h : fltV c f) (e : ByteArray) : 0 ≤ ((findA e (arrS c f win)).getD dA).1 ∧ ((findA e (arrS c f win)).getD dA).1 ≤ 100448 := by
 cases hf : findA e (arrS c f win) with
 | none => exact ⟨by decide, by decide⟩
 | some a =>
  have := (arr_tick h (List.mem_of_find?_eq_some hf)).1
  exact this
def cClr : Con := { args := [aC, aF, aPl], ress := [Pr, I], owns := [], pre := fun (c, _) => [c.1.length ≤ 1000000, c.2.1.length ≤ 1000000], spec := fun (c, f, p, _) => (clrF c f p, clrEE c f p, ()) }
abbrev annUnC : Nat → Option Ann := fun i => if i = 0 ∨ i = 2 then some { X := Unit, σ := fun _ => ⟨0, [], []⟩, inv := fun _ => True, mu := fun _ => 0, un := 3 } else none
def vc49_0 (c : Cab) (f : Flt) (p : Pln) := (arrS (c.1, c.snd.1, c.snd.snd.fst, c.snd.snd.snd) (f.fst, f.snd.fst, f.snd.snd.fst, f.snd.snd.snd) p.snd.snd.snd)
def vc49_1 (c : Cab) (f : Flt) (p : Pln) := (true = true → List.length (vc49_0 c f p) ≤ (1000000 : Nat) ∧ (((-9223372036854775808 : Int) ≤ (Option.getD (findA (ByteArray.mk (Array.mk [(65 : UInt8)])) (vc49_0 c f p)) dA).fst + p.snd.fst ∧ (Option.getD (findA (ByteArray.mk (Array.mk [(65 : UInt8)])) (vc49_0 c f p)) dA).fst + p.snd.fst ≤ (9223372036854775807 : Int)) ∧ List.length (vc49_0 c f p) ≤ (100000 : Nat) ∧ arrB (vc49_0 c f p) ∧ ((-1000000000 : Int) ≤ (Option.getD (findA (ByteArray.mk (Array.mk [(65 : UInt8)])) (vc49_0 c f p)) dA).fst + p.snd.fst ∧ (Option.getD (findA (ByteArray.mk (Array.mk [(65 : UInt8)])) (vc49_0 c f p)) dA).fst + p.snd.fst ≤ (2000000000 : Int)) ∧ (0 : Int) ≤ p.snd.snd.snd ∧ p.snd.snd.snd ≤ (100000 : Int)) ∧ ((!Option.isSome (openS (vc49_0 c f p) (ByteArray.mk (Array.mk [(65 : UInt8)])) ((Option.getD (findA (ByteArray.mk (Array.mk [(65 : UInt8)])) (vc49_0 c f p)) dA).fst + p.snd.fst) p.snd.snd.fst p.snd.snd.snd)) = true → true = true ∧ ((0 : Int), (0 : Int)) = clrF c f p ∧ (32 : Int) = clrEE c f p) ∧ ((!Option.isSome (openS (vc49_0 c f p) (ByteArray.mk (Array.mk [(65 : UInt8)])) ((Option.getD (findA (ByteArray.mk (Array.mk [(65 : UInt8)])) (vc49_0 c f p)) dA).fst + p.snd.fst) p.snd.snd.fst p.snd.snd.snd)) = false → ((-9223372036854775808 : Int) ≤ (0 : Int) + (1 : Int) ∧ (0 : Int) + (1 : Int) ≤ (9223372036854775807 : Int)) ∧ (true = true → List.length (vc49_0 c f p) ≤ (1000000 : Nat) ∧ (((-9223372036854775808 : Int) ≤ (Option.getD (findA (ByteArray.mk (Array.mk [(66 : UInt8)])) (vc49_0 c f p)) dA).fst + p.snd.fst ∧ (Option.getD (findA (ByteArray.mk (Array.mk [(66 : UInt8)])) (vc49_0 c f p)) dA).fst + p.snd.fst ≤ (9223372036854775807 : Int)) ∧ List.length (vc49_0 c f p) ≤ (100000 : Nat) ∧ arrB (vc49_0 c f p) ∧ ((-1000000000 : Int) ≤ (Option.getD (findA (ByteArray.mk (Array.mk [(66 : UInt8)])) (vc49_0 c f p)) dA).fst + p.snd.fst ∧ (Option.getD (findA (ByteArray.mk (Array.mk [(66 : UInt8)])) (vc49_0 c f p)) dA).fst + p.snd.fst ≤ (2000000000 : Int)) ∧ (0 : Int) ≤ p.snd.snd.snd ∧ p.snd.snd.snd ≤ (100000 : Int)) ∧ ((!Option.isSome (openS (vc49_0 c f p) (ByteArray.mk (Array.mk [(66 : UInt8)])) ((Option.getD (findA (ByteArray.mk (Array.mk [(66 : UInt8)])) (vc49_0 c f p)) dA).fst + p.snd.fst) p.snd.snd.fst p.snd.snd.snd)) = true → true = true ∧ ((0 : Int), (0 : Int)) = clrF c f p ∧ (32 : Int) = clrEE c f p) ∧ ((!Option.isSome (openS (vc49_0 c f p) (ByteArray.mk (Array.mk [(66 : UInt8)])) ((Option.getD (findA (ByteArray.mk (Array.mk [(66 : UInt8)])) (vc49_0 c f p)) dA).fst + p.snd.fst) p.snd.snd.fst p.snd.snd.snd)) = false → ((-9223372036854775808 : Int) ≤ (0 : Int) + (1 : Int) + (1 : Int) ∧ (0 : Int) + (1 : Int) + (1 : Int) ≤ (9223372036854775807 : Int)) ∧ (false = true → STUCK (9999 : Nat) (1 : Nat)) ∧ (false = false → true = true ∧ (Option.getD (openS (vc49_0 c f p) (ByteArray.mk (Array.mk [(65 : UInt8)])) ((Option.getD (findA (ByteArray.mk (Array.mk [(65 : UInt8)])) (vc49_0 c f p)) dA).fst + p.snd.fst) p.snd.snd.fst p.snd.snd.snd) (0 : Int), Option.getD (openS (vc49_0 c f p) (ByteArray.mk (Array.mk [(66 : UInt8)])) ((Option.getD (findA (ByteArray.mk (Array.mk [(66 : UInt8)])) (vc49_0 c f p)) dA).fst + p.snd.fst) p.snd.snd.fst p.snd.snd.snd) (0 : Int)) = clrF c f p ∧ (0 : Int) = clrEE c f p))) ∧ (true = false → true = true ∧ (Option.getD (openS (vc49_0 c f p) (ByteArray.mk (Array.mk [(65 : UInt8)])) ((Option.getD (findA (ByteArray.mk (Array.mk [(65 : UInt8)])) (vc49_0 c f p)) dA).fst + p.snd.fst) p.snd.snd.fst p.snd.snd.snd) (0 : Int), (0 : Int)) = clrF c f p ∧ (0 : Int) = clrEE c f p)))
theorem vc49 : ∀ (c : Cab) (f : Flt) (p : Pln), wpFG Tryz.prog G111 annUnC (fun (x : FuncId) (x_1 : Nat) => none) (Sx.look [((86 : Nat), Tryz.f86)]) Tryz.f49 cClr (c, f, p, ()) = (List.length c.fst ≤ (1000000 : Nat) → List.length c.snd.fst ≤ (1000000 : Nat) → (List.length c.1 ≤ (1000000 : Nat) ∧ List.length c.snd.1 ≤ (1000000 : Nat) ∧ (2 : Nat) ≤ (1000000 : Nat)) ∧ ((firstS [fltS (c.1, c.snd.1, c.snd.snd.fst, c.snd.snd.snd) (f.fst, f.snd.fst, f.snd.snd.fst, f.snd.snd.snd), plnS ((p.fst.fst, p.fst.snd), p.snd.fst, p.snd.snd.fst, p.snd.snd.snd)] != (0 : Int)) = true → true = true ∧ ((0 : Int), (0 : Int)) = clrF c f p ∧ firstS [fltS (c.1, c.snd.1, c.snd.snd.fst, c.snd.snd.snd) (f.fst, f.snd.fst, f.snd.snd.fst, f.snd.snd.snd), plnS ((p.fst.fst, p.fst.snd), p.snd.fst, p.snd.snd.fst, p.snd.snd.snd)] = clrEE c f p) ∧ ((firstS [fltS (c.1, c.snd.1, c.snd.snd.fst, c.snd.snd.snd) (f.fst, f.snd.fst, f.snd.snd.fst, f.snd.snd.snd), plnS ((p.fst.fst, p.fst.snd), p.snd.fst, p.snd.snd.fst, p.snd.snd.snd)] != (0 : Int)) = false → winS (c.1, c.snd.1, c.snd.snd.fst, c.snd.snd.snd) (f.fst, f.snd.fst, f.snd.snd.fst, f.snd.snd.snd) p.snd.snd.snd = (0 : Int) ∧ (true = true → (List.length (vc49_0 c f p) ≤ (1000000 : Nat) ∧ arrB (vc49_0 c f p)) ∧ ((-9223372036854775808 : Int) ≤ (0 : Int) + (1 : Int) ∧ (0 : Int) + (1 : Int) ≤ (9223372036854775807 : Int)) ∧ (true = true → (List.length (vc49_0 c f p) ≤ (1000000 : Nat) ∧ arrB (vc49_0 c f p)) ∧ ((-9223372036854775808 : Int) ≤ (0 : Int) + (1 : Int) + (1 : Int) ∧ (0 : Int) + (1 : Int) + (1 : Int) ≤ (9223372036854775807 : Int)) ∧ (false = true → STUCK (9999 : Nat) (1 : Nat)) ∧ (false = false → ((!(tripS (vc49_0 c f p) (ByteArray.mk (Array.mk [(65 : UInt8)])) p.fst.fst == true && (tripS (vc49_0 c f p) (ByteArray.mk (Array.mk [(66 : UInt8)])) p.fst.snd == true && true))) = true → true = true ∧ ((0 : Int), (0 : Int)) = clrF c f p ∧ (31 : Int) = clrEE c f p) ∧ ((!(tripS (vc49_0 c f p) (ByteArray.mk (Array.mk [(65 : UInt8)])) p.fst.fst == true && (tripS (vc49_0 c f p) (ByteArray.mk (Array.mk [(66 : UInt8)])) p.fst.snd == true && true))) = false → (vc49_1 c f p) ∧ (true = false → true = true ∧ ((0 : Int), (0 : Int)) = clrF c f p ∧ (0 : Int) = clrEE c f p)))) ∧ (true = false → ((!(tripS (vc49_0 c f p) (ByteArray.mk (Array.mk [(65 : UInt8)])) p.fst.fst == true && false)) = true → true = true ∧ ((0 : Int), (0 : Int)) = clrF c f p ∧ (31 : Int) = clrEE c f p) ∧ ((!(tripS (vc49_0 c f p) (ByteArray.mk (Array.mk [(65 : UInt8)])) p.fst.fst == true && false)) = false → (vc49_1 c f p) ∧ (true = false → true = true ∧ ((0 : Int), (0 : Int)) = clrF c f p ∧ (0 : Int) = clrEE c f p)))) ∧ (true = false → (true = true → true = true ∧ ((0 : Int), (0 : Int)) = clrF c f p ∧ (31 : Int) = clrEE c f p) ∧ (true = false → (vc49_1 c f p) ∧ (true = false → true = true ∧ ((0 : Int), (0 : Int)) = clrF c f p ∧ (0 : Int) = clrEE c f p))))) := by
 intros
 kernel_rfl
theorem wp49 (c : Cab) (f : Flt) (p : Pln) : wpFG Tryz.prog G111 (annUnC) (fun _ _ => none) (Sx.look ([(86, Tryz.f86)] : List (Nat × Func))) Tryz.f49 cClr (c, f, p, ()) := by
 refine (vc49 c f p).mpr ?_
 delta vc49_0 vc49_1
 intro h1 h2
 refine ⟨⟨h1, h2, by omega⟩, fun h => ?_, fun h => ?_⟩
 ·have h : ¬ clrE c f p = 0 := bne_iff_ne.1 h
  unfold clrF clrEE; rw [if_neg h, if_neg h]; exact ⟨rfl, rfl, rfl⟩
 have h : clrE c f p = 0 := bne_eq_false_iff_eq.1 h
 obtain ⟨hf, hw, b1, b2⟩ := clrE_zero h
 obtain ⟨hB, hL⟩ := arrS_bd (win := p.2.2.2) hf
 have tA := find_tick (win := p.2.2.2) hf sA
 have tB := find_tick (win := p.2.2.2) hf sB
 have eF : clrF c f p = clrG (arrS c f p.2.2.2) p := if_pos h
 have eE : clrEE c f p = clrGE (arrS c f p.2.2.2) p := if_pos h
 rw [eF, eE]
 have hL6 : (arrS c f p.2.2.2).length ≤ 1000000 := by omega
 have hL5 : (arrS c f p.2.2.2).length ≤ 100000 := by omega
 have kA : -1000000000 ≤ ((findA sA (arrS c f p.2.2.2)).getD dA).1 + p.2.1 ∧ ((findA sA (arrS c f p.2.2.2)).getD dA).1 + p.2.1 ≤ 2000000000 := by omega
 have kB : -1000000000 ≤ ((findA sB (arrS c f p.2.2.2)).getD dA).1 + p.2.1 ∧ ((findA sB (arrS c f p.2.2.2)).getD dA).1 + p.2.1 ≤ 2000000000 := by omega
 have jA : -9223372036854775808 ≤ ((findA sA (arrS c f p.2.2.2)).getD dA).1 + p.2.1 ∧ ((findA sA (arrS c f p.2.2.2)).getD dA).1 + p.2.1 ≤ 9223372036854775807 := by omega
 have jB : -9223372036854775808 ≤ ((findA sB (arrS c f p.2.2.2)).getD dA).1 + p.2.1 ∧ ((findA sB (arrS c f p.2.2.2)).getD dA).1 + p.2.1 ≤ 9223372036854775807 := by omega
 have b2' : 0 ≤ p.2.2.2 ∧ p.2.2.2 ≤ 100000 := by omega
 have eT : ∀ x y : Bool, (!(x == true && (y == true && true))) = !(x && y) := by decide
 refine ⟨hw, fun _ => ⟨⟨hL6, hB⟩, by omega, fun _ => ⟨⟨hL6, hB⟩, by omega, fun q => (by cases q), fun _ => ⟨fun q => ?_, fun q => ⟨fun _ => ⟨hL6, ⟨jA, hL5, hB, kA, b2'⟩, fun q1 => ?_, fun q1 => ⟨by omega, fun _ => ⟨hL6, ⟨jB, hL5, hB, kB, b2'⟩, fun q2 => ?_, fun q2 => ⟨by omega, fun q => (by cases q), fun _ => ?_⟩⟩, fun q => (by cases q)⟩⟩, fun q => (by cases q)⟩⟩⟩, fun q => (by cases q)⟩, fun q => (by cases q)⟩
 ·rw [eT] at q
  have q : (!bothT (arrS c f p.2.2.2) p) = true := q
  have q : bothT (arrS c f p.2.2.2) p = false := by simpa using q
  unfold clrG clrGE
  rw [q, if_neg (fun q => by cases q.1), if_neg (by decide)]
  exact ⟨rfl, rfl, rfl⟩
 ·rw [eT] at q
  have q : (!bothT (arrS c f p.2.2.2) p) = false := q
  have q : bothT (arrS c f p.2.2.2) p = true := by simpa using q
  have q1 : (!(openAt (arrS c f p.2.2.2) sA p).isSome) = true := q1
  have q1 : (openAt (arrS c f p.2.2.2) sA p).isSome = false := by simpa using q1
  unfold clrG clrGE
  rw [q, q1, if_neg (fun q => by cases q.2.1), if_pos rfl, if_neg (fun q => by cases q.1)]
  exact ⟨rfl, rfl, rfl⟩
 ·rw [eT] at q
  have q : (!bothT (arrS c f p.2.2.2) p) = false := q
  have q : bothT (arrS c f p.2.2.2) p = true := by simpa using q
  have q2 : (!(openAt (arrS c f p.2.2.2) sB p).isSome) = true := q2
  have q2 : (openAt (arrS c f p.2.2.2) sB p).isSome = false := by simpa using q2
  unfold clrG clrGE
  rw [q, q2, if_neg (fun q => by cases q.2.2), if_pos rfl, if_neg (fun q => by cases q.2)]
  exact ⟨rfl, rfl, rfl⟩
 ·rw [eT] at q
  have q : (!bothT (arrS c f p.2.2.2) p) = false := q
  have q : bothT (arrS c f p.2.2.2) p = true := by simpa using q
  have q1 : (!(openAt (arrS c f p.2.2.2) sA p).isSome) = false := q1
  have q1 : (openAt (arrS c f p.2.2.2) sA p).isSome = true := by simpa using q1
  have q2 : (!(openAt (arrS c f p.2.2.2) sB p).isSome) = false := q2
  have q2 : (openAt (arrS c f p.2.2.2) sB p).isSome = true := by simpa using q2
  unfold clrG clrGE
  rw [q, q1, q2, if_pos ⟨rfl, rfl, rfl⟩, if_pos rfl, if_pos ⟨rfl, rfl⟩]
  exact ⟨rfl, rfl, rfl⟩
theorem ok49 [Sx.Dr] : Ok Tryz.prog 49 cClr := ok_of_wpG mixed g111 (by kernel_rfl) (by kernel_rfl) (lib_ok (List.forall_mem_cons.2 ⟨by kernel_rfl, by simp⟩)) (fun xx => annUnC) (fun xx => fun _ _ => none) fun xx => wp49 xx.1 xx.2.1 xx.2.2.1
abbrev G112 : Gam := (49, cClr) :: G111
theorem g112 [Sx.Dr] : GamOk Tryz.prog G112 := .cons ok49 g111
def cClrR : Con := { args := [aCR, aF, aPl], ress := [Pr, I], owns := [], pre := fun (c, f, p, _) => [clrE c f p = 0], spec := fun (c, f, p, _) => (clrG (arrS c f p.2.2.2) p, clrGE (arrS c f p.2.2.2) p, ()) }
def vc51_0 (c : Cab) (f : Flt) (p : Pln) := (refA (c.1, c.snd.1, c.snd.snd.fst, c.snd.snd.snd) (runR (c.1, c.snd.1, c.snd.snd.fst, c.snd.snd.snd) (f.fst, f.snd.fst, f.snd.snd.fst, f.snd.snd.snd) p.snd.snd.snd))
def vc51_1 (c : Cab) (f : Flt) (p : Pln) := (((bif Option.isSome (openS (vc51_0 c f p) (ByteArray.mk (Array.mk [(66 : UInt8)])) ((Option.getD (findA (ByteArray.mk (Array.mk [(66 : UInt8)])) (vc51_0 c f p)) dA).fst + p.snd.fst) p.snd.snd.fst p.snd.snd.snd) then (0 : Int) else (7 : Int)) != (0 : Int)) = false → ((-9223372036854775808 : Int) ≤ (0 : Int) + (1 : Int) + (1 : Int) ∧ (0 : Int) + (1 : Int) + (1 : Int) ≤ (9223372036854775807 : Int)) ∧ (false = true → (((0 : Int) ≤ (0 : Int) + (1 : Int) + (1 : Int) ∧ (0 : Int) + (1 : Int) + (1 : Int) < (2 : Int)) ∧ ((0 : Int) ≤ (0 : Int) + (1 : Int) + (1 : Int) ∧ (0 : Int) + (1 : Int) + (1 : Int) < (2 : Int)) ∧ List.length (vc51_0 c f p) ≤ (1000000 : Nat)) ∧ (((0 : Int) ≤ (0 : Int) + (1 : Int) + (1 : Int) ∧ (0 : Int) + (1 : Int) + (1 : Int) < (2 : Int)) ∧ ((0 : Int) ≤ (0 : Int) + (1 : Int) + (1 : Int) ∧ (0 : Int) + (1 : Int) + (1 : Int) < (2 : Int)) ∧ ((-9223372036854775808 : Int) ≤ (Option.getD (findA (ByteArray.mk (Array.mk [])) (vc51_0 c f p)) dA).fst + p.snd.fst ∧ (Option.getD (findA (ByteArray.mk (Array.mk [])) (vc51_0 c f p)) dA).fst + p.snd.fst ≤ (9223372036854775807 : Int)) ∧ List.length (vc51_0 c f p) ≤ (100000 : Nat) ∧ arrB (vc51_0 c f p) ∧ ((-1000000000 : Int) ≤ (Option.getD (findA (ByteArray.mk (Array.mk [])) (vc51_0 c f p)) dA).fst + p.snd.fst ∧ (Option.getD (findA (ByteArray.mk (Array.mk [])) (vc51_0 c f p)) dA).fst + p.snd.fst ≤ (2000000000 : Int)) ∧ (0 : Int) ≤ p.snd.snd.snd ∧ p.snd.snd.snd ≤ (100000 : Int)) ∧ (((bif Option.isSome (openS (vc51_0 c f p) (ByteArray.mk (Array.mk [])) ((Option.getD (findA (ByteArray.mk (Array.mk [])) (vc51_0 c f p)) dA).fst + p.snd.fst) p.snd.snd.fst p.snd.snd.snd) then (0 : Int) else (7 : Int)) != (0 : Int)) = true → true = true ∧ ((0 : Int), (0 : Int)) = clrG (arrS c f p.snd.snd.snd) p ∧ (32 : Int) = clrGE (arrS c f p.snd.snd.snd) p) ∧ (((bif Option.isSome (openS (vc51_0 c f p) (ByteArray.mk (Array.mk [])) ((Option.getD (findA (ByteArray.mk (Array.mk [])) (vc51_0 c f p)) dA).fst + p.snd.fst) p.snd.snd.fst p.snd.snd.snd) then (0 : Int) else (7 : Int)) != (0 : Int)) = false → STUCK (9999 : Nat) (2 : Nat))) ∧ (false = false → true = true ∧ (Option.getD (openS (vc51_0 c f p) (ByteArray.mk (Array.mk [(65 : UInt8)])) ((Option.getD (findA (ByteArray.mk (Array.mk [(65 : UInt8)])) (vc51_0 c f p)) dA).fst + p.snd.fst) p.snd.snd.fst p.snd.snd.snd) (0 : Int), Option.getD (openS (vc51_0 c f p) (ByteArray.mk (Array.mk [(66 : UInt8)])) ((Option.getD (findA (ByteArray.mk (Array.mk [(66 : UInt8)])) (vc51_0 c f p)) dA).fst + p.snd.fst) p.snd.snd.fst p.snd.snd.snd) (0 : Int)) = clrG (arrS c f p.snd.snd.snd) p ∧ (0 : Int) = clrGE (arrS c f p.snd.snd.snd) p))
def vc51_2 (c : Cab) (f : Flt) (p : Pln) := (true = true → (((0 : Int) ≤ (0 : Int) ∧ (0 : Int) < (2 : Int)) ∧ ((0 : Int) ≤ (0 : Int) ∧ (0 : Int) < (2 : Int)) ∧ List.length (vc51_0 c f p) ≤ (1000000 : Nat)) ∧ (((0 : Int) ≤ (0 : Int) ∧ (0 : Int) < (2 : Int)) ∧ ((0 : Int) ≤ (0 : Int) ∧ (0 : Int) < (2 : Int)) ∧ ((-9223372036854775808 : Int) ≤ (Option.getD (findA (ByteArray.mk (Array.mk [(65 : UInt8)])) (vc51_0 c f p)) dA).fst + p.snd.fst ∧ (Option.getD (findA (ByteArray.mk (Array.mk [(65 : UInt8)])) (vc51_0 c f p)) dA).fst + p.snd.fst ≤ (9223372036854775807 : Int)) ∧ List.length (vc51_0 c f p) ≤ (100000 : Nat) ∧ arrB (vc51_0 c f p) ∧ ((-1000000000 : Int) ≤ (Option.getD (findA (ByteArray.mk (Array.mk [(65 : UInt8)])) (vc51_0 c f p)) dA).fst + p.snd.fst ∧ (Option.getD (findA (ByteArray.mk (Array.mk [(65 : UInt8)])) (vc51_0 c f p)) dA).fst + p.snd.fst ≤ (2000000000 : Int)) ∧ (0 : Int) ≤ p.snd.snd.snd ∧ p.snd.snd.snd ≤ (100000 : Int)) ∧ (((bif Option.isSome (openS (vc51_0 c f p) (ByteArray.mk (Array.mk [(65 : UInt8)])) ((Option.getD (findA (ByteArray.mk (Array.mk [(65 : UInt8)])) (vc51_0 c f p)) dA).fst + p.snd.fst) p.snd.snd.fst p.snd.snd.snd) then (0 : Int) else (7 : Int)) != (0 : Int)) = true → true = true ∧ ((0 : Int), (0 : Int)) = clrG (arrS c f p.snd.snd.snd) p ∧ (32 : Int) = clrGE (arrS c f p.snd.snd.snd) p) ∧ (((bif Option.isSome (openS (vc51_0 c f p) (ByteArray.mk (Array.mk [(65 : UInt8)])) ((Option.getD (findA (ByteArray.mk (Array.mk [(65 : UInt8)])) (vc51_0 c f p)) dA).fst + p.snd.fst) p.snd.snd.fst p.snd.snd.snd) then (0 : Int) else (7 : Int)) != (0 : Int)) = false → ((-9223372036854775808 : Int) ≤ (0 : Int) + (1 : Int) ∧ (0 : Int) + (1 : Int) ≤ (9223372036854775807 : Int)) ∧ (true = true → (((0 : Int) ≤ (0 : Int) + (1 : Int) ∧ (0 : Int) + (1 : Int) < (2 : Int)) ∧ ((0 : Int) ≤ (0 : Int) + (1 : Int) ∧ (0 : Int) + (1 : Int) < (2 : Int)) ∧ List.length (vc51_0 c f p) ≤ (1000000 : Nat)) ∧ (((0 : Int) ≤ (0 : Int) + (1 : Int) ∧ (0 : Int) + (1 : Int) < (2 : Int)) ∧ ((0 : Int) ≤ (0 : Int) + (1 : Int) ∧ (0 : Int) + (1 : Int) < (2 : Int)) ∧ ((-9223372036854775808 : Int) ≤ (Option.getD (findA (ByteArray.mk (Array.mk [(66 : UInt8)])) (vc51_0 c f p)) dA).fst + p.snd.fst ∧ (Option.getD (findA (ByteArray.mk (Array.mk [(66 : UInt8)])) (vc51_0 c f p)) dA).fst + p.snd.fst ≤ (9223372036854775807 : Int)) ∧ List.length (vc51_0 c f p) ≤ (100000 : Nat) ∧ arrB (vc51_0 c f p) ∧ ((-1000000000 : Int) ≤ (Option.getD (findA (ByteArray.mk (Array.mk [(66 : UInt8)])) (vc51_0 c f p)) dA).fst + p.snd.fst ∧ (Option.getD (findA (ByteArray.mk (Array.mk [(66 : UInt8)])) (vc51_0 c f p)) dA).fst + p.snd.fst ≤ (2000000000 : Int)) ∧ (0 : Int) ≤ p.snd.snd.snd ∧ p.snd.snd.snd ≤ (100000 : Int)) ∧ (((bif Option.isSome (openS (vc51_0 c f p) (ByteArray.mk (Array.mk [(66 : UInt8)])) ((Option.getD (findA (ByteArray.mk (Array.mk [(66 : UInt8)])) (vc51_0 c f p)) dA).fst + p.snd.fst) p.snd.snd.fst p.snd.snd.snd) then (0 : Int) else (7 : Int)) != (0 : Int)) = true → true = true ∧ ((0 : Int), (0 : Int)) = clrG (arrS c f p.snd.snd.snd) p ∧ (32 : Int) = clrGE (arrS c f p.snd.snd.snd) p) ∧ (vc51_1 c f p)) ∧ (true = false → true = true ∧ (Option.getD (openS (vc51_0 c f p) (ByteArray.mk (Array.mk [(65 : UInt8)])) ((Option.getD (findA (ByteArray.mk (Array.mk [(65 : UInt8)])) (vc51_0 c f p)) dA).fst + p.snd.fst) p.snd.snd.fst p.snd.snd.snd) (0 : Int), (0 : Int)) = clrG (arrS c f p.snd.snd.snd) p ∧ (0 : Int) = clrGE (arrS c f p.snd.snd.snd) p)))
def vc51_3 (c : Cab) (f : Flt) (p : Pln) := (true = false → true = true ∧ ((0 : Int), (0 : Int)) = clrG (arrS c f p.snd.snd.snd) p ∧ (0 : Int) = clrGE (arrS c f p.snd.snd.snd) p)
theorem vc51 : ∀ (c : Cab) (f : Flt) (p : Pln), wpFG Tryz.prog G112 annUnC (fun (x : FuncId) (x_1 : Nat) => none) (Sx.look [((86 : Nat), Tryz.f86)]) Tryz.f51 cClrR (c, f, p, ()) = (clrE c f p = (0 : Int) → winS (c.1, c.snd.1, c.snd.snd.fst, c.snd.snd.snd) (f.fst, f.snd.fst, f.snd.snd.fst, f.snd.snd.snd) p.snd.snd.snd = (0 : Int) ∧ (true = true → (((0 : Int) ≤ (0 : Int) ∧ (0 : Int) < (2 : Int)) ∧ ((0 : Int) ≤ (0 : Int) ∧ (0 : Int) < (2 : Int)) ∧ List.length (vc51_0 c f p) ≤ (1000000 : Nat) ∧ arrB (vc51_0 c f p)) ∧ ((!tripS (vc51_0 c f p) (ByteArray.mk (Array.mk [(65 : UInt8)])) p.fst.fst) = true → true = true ∧ ((0 : Int), (0 : Int)) = clrG (arrS c f p.snd.snd.snd) p ∧ (31 : Int) = clrGE (arrS c f p.snd.snd.snd) p) ∧ ((!tripS (vc51_0 c f p) (ByteArray.mk (Array.mk [(65 : UInt8)])) p.fst.fst) = false → ((-9223372036854775808 : Int) ≤ (0 : Int) + (1 : Int) ∧ (0 : Int) + (1 : Int) ≤ (9223372036854775807 : Int)) ∧ (true = true → (((0 : Int) ≤ (0 : Int) + (1 : Int) ∧ (0 : Int) + (1 : Int) < (2 : Int)) ∧ ((0 : Int) ≤ (0 : Int) + (1 : Int) ∧ (0 : Int) + (1 : Int) < (2 : Int)) ∧ List.length (vc51_0 c f p) ≤ (1000000 : Nat) ∧ arrB (vc51_0 c f p)) ∧ ((!tripS (vc51_0 c f p) (ByteArray.mk (Array.mk [(66 : UInt8)])) p.fst.snd) = true → true = true ∧ ((0 : Int), (0 : Int)) = clrG (arrS c f p.snd.snd.snd) p ∧ (31 : Int) = clrGE (arrS c f p.snd.snd.snd) p) ∧ ((!tripS (vc51_0 c f p) (ByteArray.mk (Array.mk [(66 : UInt8)])) p.fst.snd) = false → ((-9223372036854775808 : Int) ≤ (0 : Int) + (1 : Int) + (1 : Int) ∧ (0 : Int) + (1 : Int) + (1 : Int) ≤ (9223372036854775807 : Int)) ∧ (false = true → STUCK (6 : Nat) (7 : Nat)) ∧ (false = false → (vc51_2 c f p) ∧ (vc51_3 c f p)))) ∧ (true = false → (vc51_2 c f p) ∧ (vc51_3 c f p)))) ∧ (true = false → (vc51_2 c f p) ∧ (vc51_3 c f p))) := by
 intros
 kernel_rfl
theorem wp51 (c : Cab) (f : Flt) (p : Pln) : wpFG Tryz.prog G112 (annUnC) (fun _ _ => none) (Sx.look ([(86, Tryz.f86)] : List (Nat × Func))) Tryz.f51 cClrR (c, f, p, ()) := by
 refine (vc51 c f p).mpr ?_
 delta vc51_0 vc51_1 vc51_2 vc51_3
 intro h
 obtain ⟨hf, hw, b1, b2⟩ := clrE_zero h
 have eL := arrS_eq (win := p.2.2.2) hf
 obtain ⟨hB, hL⟩ := arrS_bd (win := p.2.2.2) hf
 have tA := find_tick (win := p.2.2.2) hf sA
 have tB := find_tick (win := p.2.2.2) hf sB
 have hL6 : (arrS c f p.2.2.2).length ≤ 1000000 := by omega
 have hL5 : (arrS c f p.2.2.2).length ≤ 100000 := by omega
 have kA : -1000000000 ≤ ((findA sA (arrS c f p.2.2.2)).getD dA).1 + p.2.1 ∧ ((findA sA (arrS c f p.2.2.2)).getD dA).1 + p.2.1 ≤ 2000000000 := by omega
 have kB : -1000000000 ≤ ((findA sB (arrS c f p.2.2.2)).getD dA).1 + p.2.1 ∧ ((findA sB (arrS c f p.2.2.2)).getD dA).1 + p.2.1 ≤ 2000000000 := by omega
 have jA : -9223372036854775808 ≤ ((findA sA (arrS c f p.2.2.2)).getD dA).1 + p.2.1 ∧ ((findA sA (arrS c f p.2.2.2)).getD dA).1 + p.2.1 ≤ 9223372036854775807 := by omega
 have jB : -9223372036854775808 ≤ ((findA sB (arrS c f p.2.2.2)).getD dA).1 + p.2.1 ∧ ((findA sB (arrS c f p.2.2.2)).getD dA).1 + p.2.1 ≤ 9223372036854775807 := by omega
 have b2' : 0 ≤ p.2.2.2 ∧ p.2.2.2 ≤ 100000 := by omega
 rw [← eL] at hB hL6 hL5 kA kB jA jB
 rw [← eL]
 have eO : ∀ x : Bool, ((bif x then (0 : Int) else 7) != 0) = !x := by decide
 have o1 : (0 : Int) ≤ 0 ∧ (0 : Int) < 2 := by decide
 have o2 : (0 : Int) ≤ 0 + 1 ∧ (0 : Int) + 1 < 2 := by decide
 have m1 : -9223372036854775808 ≤ (0 : Int) + 1 ∧ (0 : Int) + 1 ≤ 9223372036854775807 := by decide
 have m2 : -9223372036854775808 ≤ (0 : Int) + 1 + 1 ∧ (0 : Int) + 1 + 1 ≤ 9223372036854775807 := by decide
 refine ⟨hw, fun _ => ⟨⟨o1, o1, hL6, hB⟩, fun q => ?_, fun q => ⟨m1, fun _ => ⟨⟨o2, o2, hL6, hB⟩, fun q' => ?_, fun q' => ⟨m2, fun z => (by cases z), fun _ => ⟨fun _ => ⟨⟨o1, o1, hL6⟩, ⟨o1, o1, jA, hL5, hB, kA, b2'⟩, fun q1 => ?_, fun q1 => ⟨m1, fun _ => ⟨⟨o2, o2, hL6⟩, ⟨o2, o2, jB, hL5, hB, kB, b2'⟩, fun q2 => ?_, fun q2 => ⟨m2, fun z => (by cases z), fun _ => ?_⟩⟩, fun z => (by cases z)⟩⟩, fun z => (by cases z)⟩⟩⟩, fun z => (by cases z)⟩⟩, fun z => (by cases z)⟩
 ·have q : (!tripS (refA c (runR c f p.2.2.2)) sA p.1.1) = true := q
  have q : tripS (refA c (runR c f p.2.2.2)) sA p.1.1 = false := by simpa using q
  have q : bothT (refA c (runR c f p.2.2.2)) p = false := by unfold bothT; rw [q]; rfl
  unfold clrG clrGE
  rw [q, if_neg (fun q => by cases q.1), if_neg (by decide)]
  exact ⟨rfl, rfl, rfl⟩
 ·have q' : (!tripS (refA c (runR c f p.2.2.2)) sB p.1.2) = true := q'
  have q' : tripS (refA c (runR c f p.2.2.2)) sB p.1.2 = false := by simpa using q'
  have q : bothT (refA c (runR c f p.2.2.2)) p = false := by unfold bothT; rw [q', Bool.and_false]
  unfold clrG clrGE
  rw [q, if_neg (fun q => by cases q.1), if_neg (by decide)]
  exact ⟨rfl, rfl, rfl⟩
 all_goals
  have q : (!tripS (refA c (runR c f p.2.2.2)) sA p.1.1) = false := q
  have q : tripS (refA c (runR c f p.2.2.2)) sA p.1.1 = true := by simpa using q
  have q' : (!tripS (refA c (runR c f p.2.2.2)) sB p.1.2) = false := q'
  have q' : tripS (refA c (runR c f p.2.2.2)) sB p.1.2 = true := by simpa using q'
  have q : bothT (refA c (runR c f p.2.2.2)) p = true := by unfold bothT; rw [q, q']; rfl
  rw [eO] at q1
 ·have q1 : (!(openAt (refA c (runR c f p.2.2.2)) sA p).isSome) = true := q1
  have q1 : (openAt (refA c (runR c f p.2.2.2)) sA p).isSome = false := by simpa using q1
  unfold clrG clrGE
  rw [q, q1, if_neg (fun q => by cases q.2.1), if_pos rfl, if_neg (fun q => by cases q.1)]
  exact ⟨rfl, rfl, rfl⟩
 ·rw [eO] at q2
  have q2 : (!(openAt (refA c (runR c f p.2.2.2)) sB p).isSome) = true := q2
  have q2 : (openAt (refA c (runR c f p.2.2.2)) sB p).isSome = false := by simpa using q2
  unfold clrG clrGE
  rw [q, q2, if_neg (fun q => by cases q.2.2), if_pos rfl, if_neg (fun q => by cases q.2)]
  exact ⟨rfl, rfl, rfl⟩
 ·rw [eO] at q2
  have q1 : (!(openAt (refA c (runR c f p.2.2.2)) sA p).isSome) = false := q1
  have q1 : (openAt (refA c (runR c f p.2.2.2)) sA p).isSome = true := by simpa using q1
  have q2 : (!(openAt (refA c (runR c f p.2.2.2)) sB p).isSome) = false := q2
  have q2 : (openAt (refA c (runR c f p.2.2.2)) sB p).isSome = true := by simpa using q2
  unfold clrG clrGE
  rw [q, q1, q2, if_pos ⟨rfl, rfl, rfl⟩, if_pos rfl, if_pos ⟨rfl, rfl⟩]
  exact ⟨rfl, rfl, rfl⟩
theorem ok51 [Sx.Dr] : Ok Tryz.prog 51 cClrR := ok_of_wpG mixed g112 (by kernel_rfl) (by kernel_rfl) (lib_ok (List.forall_mem_cons.2 ⟨by kernel_rfl, by simp⟩)) (fun xx => annUnC) (fun xx => fun _ _ => none) fun xx => wp51 xx.1 xx.2.1 xx.2.2.1
abbrev G113 : Gam := (51, cClrR) :: G112
theorem g113 [Sx.Dr] : GamOk Tryz.prog G113 := .cons ok51 g112
set_option maxHeartbeats 20000000
set_option pp.deepTerms true
set_option pp.maxSteps 1000000
def cArrR' : Con := { args := [aCR, aF, aI], ress := [(false, .list 130 sArr)], owns := [], pre := fun (c, f, win, _) => [winS c f win = 0], spec := fun (c, f, win, _) => (arrS c f win, ()) }
theorem ok28' [Sx.Dr] : Ok Tryz.prog 28 cArrR' := by
 refine ⟨ok28.1, fun z hz => (by cases hz), fun F hF => (by cases hF), fun _ x M R w vs hM hg hpre hargs => ?_⟩
 have h := ok28.2.2.2 rfl x M R w vs hM hg hpre hargs
 obtain ⟨c, f, win, u⟩ := x
 have hw : winS c f win = 0 := hpre
 have e : refA c (runR c f win) = arrS c f win := arrS_eq (fltS_V (winS_V hw).1).2
 have h' : Calls Tryz.prog 28 vs.toArray w (Post M w cArrR.ress cArrR.owns (refA c (runR c f win), ())) := h
 rw [e] at h'
 exact h'
abbrev G114 : Gam := (28, cArrR') :: G113
theorem g114 [Sx.Dr] : GamOk Tryz.prog G114 := .cons ok28' g113
def absI (n : Int) : Int := max n (0 - n)
def absA : List Arr → Int
 | [] => 0
 | a :: r => absI a.2.2 + absA r
def absM : AM → Int
 | [] => 0
 | p :: r => absI p.2 + absM r
theorem absM_add (k : Arr) (h : Int) : ∀ m : AM, absM (addM m k h) ≤ absM m + absI h
 | [] => by
  have : addM [] k h = [(k, 0 + h)] := rfl
  rw [this]; simp only [absM]; unfold absI; omega
 | x :: r => by
  have ih := absM_add k h r
  unfold addM at ih ⊢
  simp only [mpGet, mpSet]
  by_cases e : keyEq sArr k x.1 = true
  ·rw [if_pos e, if_pos e]
   simp only [absM, Option.getD_some]; unfold absI; omega
  ·rw [if_neg e, if_neg e]
   simp only [absM]; omega
theorem absM_hit {c : Cab} {m : AM} {w : Stp} (h : -17179869184 ≤ w.2.2.2.2 ∧ w.2.2.2.2 ≤ 17179869184) : absM (hitM c m w) ≤ absM m + 17179869184 := by
 unfold hitM
 have hb : absI w.2.2.2.2 ≤ 17179869184 := by unfold absI; omega
 repeat' split
 ·have := absM_add (w.1, sA, 0) w.2.2.2.2 m; omega
 ·have := absM_add (w.1, sB, 0) w.2.2.2.2 m; omega
 ·omega
theorem absM_fold {c : Cab} : ∀ {l : List Stp} {m : AM}, (∀ w ∈ l, wvH c w) → absM (l.foldl (hitM c) m) ≤ absM m + 17179869184 * l.length
 | [], m, _ => by simp
 | w :: r, m, h => by
  have h1 := absM_hit (c := c) (m := m) (wvH_ht (h w (by simp)))
  have h2 := absM_fold (c := c) (l := r) (m := hitM c m w) fun x hx => h x (by simp [hx])
  simp only [List.foldl_cons, List.length_cons]; omega
theorem absA_map : ∀ m : AM, absA (m.map rowA) = absM m
 | [] => rfl
 | p :: r => by
  simp only [List.map_cons, absA, absM, absA_map r]; rfl
theorem absA_perm {l r : List Arr} (h : l.Perm r) : absA l = absA r := by
 induction h with
 | nil => rfl
 | cons x _ ih => simp only [absA, ih]
 | swap x y l => simp only [absA]; omega
 | trans _ _ h1 h2 => rw [h1, h2]
theorem sumGo_abs {e : ByteArray} {t : Int} : ∀ {l : List Arr} {n : Int}, n - absA l ≤ sumGo e t l n ∧ sumGo e t l n ≤ n + absA l
 | [], n => by simp [sumGo, absA]
 | a :: r, n => by
  have ih := sumGo_abs (e := e) (t := t) (l := r) (n := bif okAt e t a then n + a.2.2 else n)
  have h0 : 0 ≤ absI a.2.2 ∧ a.2.2 ≤ absI a.2.2 ∧ -absI a.2.2 ≤ a.2.2 := by unfold absI; omega
  simp only [sumGo, absA]
  cases hq : okAt e t a
  ·rw [hq] at ih; simp only [cond_false] at ih ⊢; omega
  ·rw [hq] at ih; simp only [cond_true] at ih ⊢; omega
theorem sum_arr {c : Cab} {f : Flt} {win : Int} (h : fltV c f) (e : ByteArray) (t : Int) : -4363686772736 ≤ sumAt (arrS c f win) e t ∧ sumAt (arrS c f win) e t ≤ 4363686772736 := by
 have h1 := sumGo_abs (e := e) (t := t) (l := arrS c f win) (n := 0)
 have h2 : absA (arrS c f win) = absM (sumsM c (wavesS c f win)) := (absA_perm (sortA_perm _)).trans (absA_map _)
 have h3 := absM_fold (c := c) (m := []) fun w hw => ((waves_H (win := win) h).1 w hw).1
 have h3 : absM (sumsM c (wavesS c f win)) ≤ 0 + 17179869184 * (wavesS c f win).length := h3
 have h4 := waves_len (win := win) h
 unfold sumAt
 omega
def rcE (c : Cab) (f : Flt) (e : ByteArray) (w : Int) : Int := firstS [fltS c f, endS e, withinS w 0 1000]
def rcS (l : List Arr) (e : ByteArray) (t : Int) : Int := roundS (16 * sumAt l e t) 262144
def rcA (l : List Arr) (e : ByteArray) (t : Int) : Nat → List Nat
 | 0 => []
 | k + 1 => rcA l e t k ++ [smpS (rcS l e (t + k))]
def rcBig (l : List Arr) (e : ByteArray) (t : Int) : Nat → Bool
 | 0 => false
 | k + 1 => rcBig l e t k || largeS (rcS l e (t + k))
def rcG (l : List Arr) (e : ByteArray) (t w : Int) : List Nat := if rcBig l e t (w + 1).toNat = true then [] else rcA l e t (w + 1).toNat
def rcGE (l : List Arr) (e : ByteArray) (t w : Int) : Int := if rcBig l e t (w + 1).toNat = true then 4 else 0
def rcF (c : Cab) (f : Flt) (e : ByteArray) (w : Int) : List Nat := if rcE c f e w = 0 then rcG (arrS c f w) e f.2.2.1 w else []
def rcEE (c : Cab) (f : Flt) (e : ByteArray) (w : Int) : Int := if rcE c f e w = 0 then rcGE (arrS c f w) e f.2.2.1 w else rcE c f e w
theorem rcE_zero {c : Cab} {f : Flt} {e : ByteArray} {w : Int} (h : rcE c f e w = 0) : fltV c f ∧ winS c f w = 0 ∧ 0 ≤ w ∧ w ≤ 1000 := by
 have hz := firstS_zero (show firstS [fltS c f, endS e, withinS w 0 1000] = 0 from h)
 simp only [List.mem_cons, List.not_mem_nil, or_false, forall_eq_or_imp, forall_eq] at hz
 have b := within_zero.1 hz.2.2
 have hf := (fltS_V hz.1).2
 exact ⟨hf, winS_zero hf b, b⟩
theorem rcA_len (l : List Arr) (e : ByteArray) (t : Int) : ∀ k, (rcA l e t k).length = k
 | 0 => rfl
 | k + 1 => by simp only [rcA, List.length_append, List.length_singleton, rcA_len l e t k]
theorem rcBig_mono {l : List Arr} {e : ByteArray} {t : Int} {k : Nat} : ∀ {m : Nat}, k ≤ m → rcBig l e t k = true → rcBig l e t m = true
  | 0, h, hb => by have : k = 0 := by omega
                   subst this; exact hb
  | m + 1, h, hb => by
    by_cases e' : k = m + 1
    · rw [← e']; exact hb
    · simp only [rcBig]
      rw [rcBig_mono (m := m) (by omega) hb]; rfl
theorem large_eq (n : Int) : (bif decide (16384 < n) then true else decide (n < -16384)) = largeS n := by
 unfold largeS; cases decide (16384 < n) <;> rfl
def cRec : Con := { args := [aC, aF, aS, aI], ress := [(false, .list 164 sFl), I], owns := [], pre := fun (c, _) => [c.1.length ≤ 1000000, c.2.1.length ≤ 1000000], spec := fun (c, f, e, w, _) => (rcF c f e w, rcEE c f e w, ()) }
abbrev annRec (c : Cab) (f : Flt) (e : ByteArray) (w : Int) : Ann := { X := Nat, σ := fun k => ⟨7, [(2, .one (.str e)), (5, .one (.ptr 3 0)), (11, .one (.sl 5)), (12, .one (.sl 6)), (35, .one (.int .i64 (w + 1))), (36, .one (.int .i64 k))], [(3, .box 31 [.int .i64 f.1, .int .i64 f.2.1, .int .i64 f.2.2.1, .int .i64 f.2.2.2]), (5, .imm 107 sArr (arrS c f w)), (6, .own 164 sFl (rcA (arrS c f w) e f.2.2.1 k))]⟩, inv := fun k => rcE c f e w = 0 ∧ (k : Int) ≤ w + 1 ∧ rcBig (arrS c f w) e f.2.2.1 k = false, mu := fun k => (w + 1).toNat - k }
theorem vc22 : ∀ (c : Cab) (f : Flt) (e : ByteArray) (w : Int), wpF Tryz.prog G114 (ann0 (annRec c f e w)) Tryz.f22 cRec (c, f, e, w, ()) = (List.length c.fst ≤ (1000000 : Nat) → List.length c.snd.fst ≤ (1000000 : Nat) → (List.length c.1 ≤ (1000000 : Nat) ∧ List.length c.snd.1 ≤ (1000000 : Nat) ∧ (3 : Nat) ≤ (1000000 : Nat)) ∧ ((firstS [fltS (c.1, c.snd.1, c.snd.snd.fst, c.snd.snd.snd) (f.fst, f.snd.fst, f.snd.snd.fst, f.snd.snd.snd), endS e, withinS w (0 : Int) (1000 : Int)] != (0 : Int)) = true → [] = rcF c f e w ∧ firstS [fltS (c.1, c.snd.1, c.snd.snd.fst, c.snd.snd.snd) (f.fst, f.snd.fst, f.snd.snd.fst, f.snd.snd.snd), endS e, withinS w (0 : Int) (1000 : Int)] = rcEE c f e w) ∧ ((firstS [fltS (c.1, c.snd.1, c.snd.snd.fst, c.snd.snd.snd) (f.fst, f.snd.fst, f.snd.snd.fst, f.snd.snd.snd), endS e, withinS w (0 : Int) (1000 : Int)] != (0 : Int)) = false → winS (c.1, c.snd.1, c.snd.snd.fst, c.snd.snd.snd) (f.fst, f.snd.fst, f.snd.snd.fst, f.snd.snd.snd) w = (0 : Int) ∧ (((-9223372036854775808 : Int) ≤ w + (1 : Int) ∧ w + (1 : Int) ≤ (9223372036854775807 : Int)) ∧ ((0 : Int) ≤ (0 : Int) ∧ (0 : Int) ≤ (1000000 : Int)) ∧ (0 : Int) ≤ w + (1 : Int) ∧ w + (1 : Int) ≤ (1000000 : Int)) ∧ ((-9223372036854775808 : Int) ≤ w + (1 : Int) ∧ w + (1 : Int) ≤ (9223372036854775807 : Int)) ∧ ∃ (x : Nat), (e = e ∧ w + (1 : Int) = w + (1 : Int) ∧ (0 : Int) = (↑x : Int) ∧ f.fst = f.fst ∧ f.snd.fst = f.snd.fst ∧ f.snd.snd.fst = f.snd.snd.fst ∧ f.snd.snd.snd = f.snd.snd.snd ∧ arrS (c.1, c.snd.1, c.snd.snd.fst, c.snd.snd.snd) (f.fst, f.snd.fst, f.snd.snd.fst, f.snd.snd.snd) w = arrS c f w ∧ [] = rcA (arrS c f w) e f.snd.snd.fst x) ∧ (rcE c f e w = (0 : Int) ∧ (↑x : Int) ≤ w + (1 : Int) ∧ rcBig (arrS c f w) e f.snd.snd.fst x = false) ∧ ∀ (x : Nat), rcE c f e w = (0 : Int) ∧ (↑x : Int) ≤ w + (1 : Int) ∧ rcBig (arrS c f w) e f.snd.snd.fst x = false → (decide ((↑x : Int) < w + (1 : Int)) = true → (((-9223372036854775808 : Int) ≤ f.snd.snd.fst + (↑x : Int) ∧ f.snd.snd.fst + (↑x : Int) ≤ (9223372036854775807 : Int)) ∧ List.length (arrS c f w) ≤ (100000 : Nat) ∧ arrB (arrS c f w) ∧ ((-9223372036854775808 : Int) ≤ (16 : Int) * sumAt (arrS c f w) e (f.snd.snd.fst + (↑x : Int)) ∧ (16 : Int) * sumAt (arrS c f w) e (f.snd.snd.fst + (↑x : Int)) ≤ (9223372036854775807 : Int)) ∧ ((-400000000000000 : Int) ≤ (16 : Int) * sumAt (arrS c f w) e (f.snd.snd.fst + (↑x : Int)) ∧ (16 : Int) * sumAt (arrS c f w) e (f.snd.snd.fst + (↑x : Int)) ≤ (400000000000000 : Int)) ∧ (0 : Int) < (262144 : Int) ∧ (262144 : Int) ≤ (100000000 : Int)) ∧ ((bif decide ((16384 : Int) < roundS ((16 : Int) * sumAt (arrS c f w) e (f.snd.snd.fst + (↑x : Int))) (262144 : Int)) then true else decide (roundS ((16 : Int) * sumAt (arrS c f w) e (f.snd.snd.fst + (↑x : Int))) (262144 : Int) < (-16384 : Int))) = true → [] = rcF c f e w ∧ (4 : Int) = rcEE c f e w) ∧ ((bif decide ((16384 : Int) < roundS ((16 : Int) * sumAt (arrS c f w) e (f.snd.snd.fst + (↑x : Int))) (262144 : Int)) then true else decide (roundS ((16 : Int) * sumAt (arrS c f w) e (f.snd.snd.fst + (↑x : Int))) (262144 : Int) < (-16384 : Int))) = false → (Option.isSome (Ieee.Format.div (Ieee.Format.mk (8 : Nat) (23 : Nat)) (FloatKind.nearest FloatKind.f32 (roundS ((16 : Int) * sumAt (arrS c f w) e (f.snd.snd.fst + (↑x : Int))) (262144 : Int))) (1098907648 : Nat)) = true ∧ (List.length (rcA (arrS c f w) e f.snd.snd.fst x) + (1 : Nat)) * (4 : Nat) ≤ (140737488355328 : Nat)) ∧ ((-9223372036854775808 : Int) ≤ (↑x : Int) + (1 : Int) ∧ (↑x : Int) + (1 : Int) ≤ (9223372036854775807 : Int)) ∧ ∃ (y : Nat), (e = e ∧ w + (1 : Int) = w + (1 : Int) ∧ (↑x : Int) + (1 : Int) = (↑y : Int) ∧ f.fst = f.fst ∧ f.snd.fst = f.snd.fst ∧ f.snd.snd.fst = f.snd.snd.fst ∧ f.snd.snd.snd = f.snd.snd.snd ∧ arrS c f w = arrS c f w ∧ rcA (arrS c f w) e f.snd.snd.fst x ++ [Option.getD (Ieee.Format.div (Ieee.Format.mk (8 : Nat) (23 : Nat)) (FloatKind.nearest FloatKind.f32 (roundS ((16 : Int) * sumAt (arrS c f w) e (f.snd.snd.fst + (↑x : Int))) (262144 : Int))) (1098907648 : Nat)) (0 : Nat)] = rcA (arrS c f w) e f.snd.snd.fst y) ∧ (rcE c f e w = (0 : Int) ∧ (↑y : Int) ≤ w + (1 : Int) ∧ rcBig (arrS c f w) e f.snd.snd.fst y = false) ∧ Int.toNat (w + (1 : Int)) - y < Int.toNat (w + (1 : Int)) - x)) ∧ (decide ((↑x : Int) < w + (1 : Int)) = false → rcA (arrS c f w) e f.snd.snd.fst x = rcF c f e w ∧ (0 : Int) = rcEE c f e w))) := by
 intros
 kernel_rfl
theorem wp22 (c : Cab) (f : Flt) (e : ByteArray) (w : Int) : wpF Tryz.prog G114 (ann0 (annRec c f e w)) Tryz.f22 cRec (c, f, e, w, ()) := by
 refine (vc22 c f e w).mpr ?_
 intro h1 h2
 refine ⟨⟨h1, h2, by omega⟩, fun h => ?_, fun h => ?_⟩
 ·have h : ¬ rcE c f e w = 0 := bne_iff_ne.1 h
  unfold rcF rcEE; rw [if_neg h, if_neg h]; exact ⟨rfl, rfl⟩
 have h : rcE c f e w = 0 := bne_eq_false_iff_eq.1 h
 obtain ⟨hf, hw, b⟩ := rcE_zero h
 obtain ⟨hB, hL⟩ := arrS_bd (win := w) hf
 have g3 := hf.2.2.2.1
 have eF : rcF c f e w = rcG (arrS c f w) e f.2.2.1 w := if_pos h
 have eE : rcEE c f e w = rcGE (arrS c f w) e f.2.2.1 w := if_pos h
 rw [eF, eE]
 refine ⟨hw, by omega, by omega, (0 : Nat), ⟨rfl, rfl, rfl, rfl, rfl, rfl, rfl, rfl, rfl⟩, ⟨h, by show (0 : Int) ≤ w + 1; omega, rfl⟩, fun (k : Nat) hk => ⟨fun q => ?_, fun q => ?_⟩⟩
 ·have q : (k : Int) < w + 1 := of_decide_eq_true q
  have hs := sum_arr (win := w) hf e (f.2.2.1 + k)
  refine ⟨⟨by omega, by omega, hB, by omega, by omega, by omega⟩, fun q1 => ?_, fun q1 => ?_⟩
  ·rw [large_eq] at q1
   have hb : rcBig (arrS c f w) e f.2.2.1 (k + 1) = true := by
    simp only [rcBig]
    rw [show largeS (rcS (arrS c f w) e (f.2.2.1 + k)) = true from q1, Bool.or_true]
   have hb := rcBig_mono (m := (w + 1).toNat) (by omega) hb
   unfold rcG rcGE
   rw [if_pos hb, if_pos hb]; exact ⟨rfl, rfl⟩
  ·rw [large_eq] at q1
   have hb : rcBig (arrS c f w) e f.2.2.1 (k + 1) = false := by
    simp only [rcBig]
    rw [show largeS (rcS (arrS c f w) e (f.2.2.1 + k)) = false from q1, hk.2.2]; rfl
   exact ⟨⟨(smp_some _).1, by rw [rcA_len]; omega⟩, by omega, (k + 1 : Nat), ⟨rfl, rfl, by simp, rfl, rfl, rfl, rfl, rfl, rfl⟩, ⟨h, by omega, hb⟩, by omega⟩
 ·have q : ¬ (k : Int) < w + 1 := of_decide_eq_false q
  have ek : (w + 1).toNat = k := by omega
  unfold rcG rcGE
  rw [ek, hk.2.2, if_neg (by decide), if_neg (by decide)]; exact ⟨rfl, rfl⟩
theorem ok22 [Sx.Dr] : Ok Tryz.prog 22 cRec := ok_of_wp mixed g114 (by kernel_rfl) (by kernel_rfl) (fun xx => ann0 (annRec xx.1 xx.2.1 xx.2.2.1 xx.2.2.2.1)) fun xx => wp22 xx.1 xx.2.1 xx.2.2.1 xx.2.2.2.1
abbrev G115 : Gam := (22, cRec) :: G114
theorem g115 [Sx.Dr] : GamOk Tryz.prog G115 := .cons ok22 g114
def cRecR : Con := { args := [aCR, aF, aS, aI], ress := [(false, .list 164 sFl), I], owns := [], pre := fun (c, f, e, w, _) => [rcE c f e w = 0], spec := fun (c, f, e, w, _) => (rcG (arrS c f w) e f.2.2.1 w, rcGE (arrS c f w) e f.2.2.1 w, ()) }
abbrev annRecR (c : Cab) (f : Flt) (e : ByteArray) (w : Int) : Ann := { X := Nat, σ := fun k => ⟨6, [(2, .one (.str e)), (3, .one (.int .i64 w)), (5, .one (.ptr 3 0)), (10, .one (.sl 4)), (11, .one (.sl 5)), (12, .one (.int .i64 (f.2.2.1 + k)))], [(3, .box 28 [.int .i64 f.1, .int .i64 f.2.1, .int .i64 f.2.2.1, .int .i64 f.2.2.2]), (4, .imm 130 sArr (arrS c f w)), (5, .own 164 sFl (rcA (arrS c f w) e f.2.2.1 k))]⟩, inv := fun k => (k : Int) ≤ w + 1 ∧ rcBig (arrS c f w) e f.2.2.1 k = false, mu := fun k => (w + 1).toNat - k }
theorem vc29 : ∀ (c : Cab) (f : Flt) (e : ByteArray) (w : Int), wpF Tryz.prog G115 (ann0 (annRecR c f e w)) Tryz.f29 cRecR (c, f, e, w, ()) = (rcE c f e w = (0 : Int) → winS (c.1, c.snd.1, c.snd.snd.fst, c.snd.snd.snd) (f.fst, f.snd.fst, f.snd.snd.fst, f.snd.snd.snd) w = (0 : Int) ∧ ∃ (x : Nat), (e = e ∧ w = w ∧ f.snd.snd.fst = f.snd.snd.fst + (↑x : Int) ∧ f.fst = f.fst ∧ f.snd.fst = f.snd.fst ∧ f.snd.snd.fst = f.snd.snd.fst ∧ f.snd.snd.snd = f.snd.snd.snd ∧ arrS (c.1, c.snd.1, c.snd.snd.fst, c.snd.snd.snd) (f.fst, f.snd.fst, f.snd.snd.fst, f.snd.snd.snd) w = arrS c f w ∧ List.length (rcA (arrS c f w) e f.snd.snd.fst x) = (0 : Nat)) ∧ ((↑x : Int) ≤ w + (1 : Int) ∧ rcBig (arrS c f w) e f.snd.snd.fst x = false) ∧ ∀ (x : Nat), (↑x : Int) ≤ w + (1 : Int) ∧ rcBig (arrS c f w) e f.snd.snd.fst x = false → ((-9223372036854775808 : Int) ≤ f.snd.snd.fst + w ∧ f.snd.snd.fst + w ≤ (9223372036854775807 : Int)) ∧ (decide (f.snd.snd.fst + (↑x : Int) ≤ f.snd.snd.fst + w) = true → (List.length (arrS c f w) ≤ (100000 : Nat) ∧ arrB (arrS c f w) ∧ ((-9223372036854775808 : Int) ≤ sumAt (arrS c f w) e (f.snd.snd.fst + (↑x : Int)) * (16 : Int) ∧ sumAt (arrS c f w) e (f.snd.snd.fst + (↑x : Int)) * (16 : Int) ≤ (9223372036854775807 : Int)) ∧ ((-400000000000000 : Int) ≤ sumAt (arrS c f w) e (f.snd.snd.fst + (↑x : Int)) * (16 : Int) ∧ sumAt (arrS c f w) e (f.snd.snd.fst + (↑x : Int)) * (16 : Int) ≤ (400000000000000 : Int)) ∧ (0 : Int) < (262144 : Int) ∧ (262144 : Int) ≤ (100000000 : Int)) ∧ (largeS (roundS (sumAt (arrS c f w) e (f.snd.snd.fst + (↑x : Int)) * (16 : Int)) (262144 : Int)) = true → [] = rcG (arrS c f w) e f.snd.snd.fst w ∧ (4 : Int) = rcGE (arrS c f w) e f.snd.snd.fst w) ∧ (largeS (roundS (sumAt (arrS c f w) e (f.snd.snd.fst + (↑x : Int)) * (16 : Int)) (262144 : Int)) = false → (List.length (rcA (arrS c f w) e f.snd.snd.fst x) + (1 : Nat)) * (4 : Nat) ≤ (140737488355328 : Nat) ∧ ((-9223372036854775808 : Int) ≤ f.snd.snd.fst + (↑x : Int) + (1 : Int) ∧ f.snd.snd.fst + (↑x : Int) + (1 : Int) ≤ (9223372036854775807 : Int)) ∧ ∃ (y : Nat), (e = e ∧ w = w ∧ f.snd.snd.fst + (↑x : Int) + (1 : Int) = f.snd.snd.fst + (↑y : Int) ∧ f.fst = f.fst ∧ f.snd.fst = f.snd.fst ∧ f.snd.snd.fst = f.snd.snd.fst ∧ f.snd.snd.snd = f.snd.snd.snd ∧ arrS c f w = arrS c f w ∧ rcA (arrS c f w) e f.snd.snd.fst x ++ [smpS (roundS (sumAt (arrS c f w) e (f.snd.snd.fst + (↑x : Int)) * (16 : Int)) (262144 : Int))] = rcA (arrS c f w) e f.snd.snd.fst y) ∧ ((↑y : Int) ≤ w + (1 : Int) ∧ rcBig (arrS c f w) e f.snd.snd.fst y = false) ∧ Int.toNat (w + (1 : Int)) - y < Int.toNat (w + (1 : Int)) - x)) ∧ (decide (f.snd.snd.fst + (↑x : Int) ≤ f.snd.snd.fst + w) = false → rcA (arrS c f w) e f.snd.snd.fst x = rcG (arrS c f w) e f.snd.snd.fst w ∧ (0 : Int) = rcGE (arrS c f w) e f.snd.snd.fst w)) := by
 intros
 kernel_rfl
theorem wp29 (c : Cab) (f : Flt) (e : ByteArray) (w : Int) : wpF Tryz.prog G115 (ann0 (annRecR c f e w)) Tryz.f29 cRecR (c, f, e, w, ()) := by
 refine (vc29 c f e w).mpr ?_
 intro h
 obtain ⟨hf, hw, b⟩ := rcE_zero h
 obtain ⟨hB, hL⟩ := arrS_bd (win := w) hf
 have g3 := hf.2.2.2.1
 refine ⟨hw, (0 : Nat), ⟨rfl, rfl, by omega, rfl, rfl, rfl, rfl, rfl, rfl⟩, ⟨by show (0 : Int) ≤ w + 1; omega, rfl⟩, fun (k : Nat) hk => ⟨by omega, fun q => ?_, fun q => ?_⟩⟩
 ·have q : f.2.2.1 + (k : Int) ≤ f.2.2.1 + w := of_decide_eq_true q
  have hs := sum_arr (win := w) hf e (f.2.2.1 + k)
  rw [Int.mul_comm _ 16]
  refine ⟨⟨by omega, hB, by omega, by omega, by omega⟩, fun q1 => ?_, fun q1 => ?_⟩
  ·have hb : rcBig (arrS c f w) e f.2.2.1 (k + 1) = true := by
    simp only [rcBig]
    rw [show largeS (rcS (arrS c f w) e (f.2.2.1 + k)) = true from q1, Bool.or_true]
   have hb := rcBig_mono (m := (w + 1).toNat) (by omega) hb
   unfold rcG rcGE
   rw [if_pos hb, if_pos hb]; exact ⟨rfl, rfl⟩
  ·have hb : rcBig (arrS c f w) e f.2.2.1 (k + 1) = false := by
    simp only [rcBig]
    rw [show largeS (rcS (arrS c f w) e (f.2.2.1 + k)) = false from q1, hk.2]; rfl
   exact ⟨by rw [rcA_len]; omega, by omega, (k + 1 : Nat), ⟨rfl, rfl, by omega, rfl, rfl, rfl, rfl, rfl, rfl⟩, ⟨by omega, hb⟩, by omega⟩
 ·have q : ¬ f.2.2.1 + (k : Int) ≤ f.2.2.1 + w := of_decide_eq_false q
  have ek : (w + 1).toNat = k := by omega
  unfold rcG rcGE
  rw [ek, hk.2, if_neg (by decide), if_neg (by decide)]; exact ⟨rfl, rfl⟩
theorem ok29 [Sx.Dr] : Ok Tryz.prog 29 cRecR := ok_of_wp mixed g115 (by kernel_rfl) (by kernel_rfl) (fun xx => ann0 (annRecR xx.1 xx.2.1 xx.2.2.1 xx.2.2.2.1)) fun xx => wp29 xx.1 xx.2.1 xx.2.2.1 xx.2.2.2.1
abbrev G116 : Gam := (29, cRecR) :: G115
theorem g116 [Sx.Dr] : GamOk Tryz.prog G116 := .cons ok29 g115
set_option maxHeartbeats 20000000
set_option pp.deepTerms true
set_option pp.maxSteps 1000000
def turnP (c : Cab) (f : Flt) : Flt := if fltS c f = 0 then turnF c f else (0, 0, 0, 0)
def cTurn : Con := { args := [aC, aF], ress := [(true, sFlt), I], owns := [], pre := fun (c, _) => [c.1.length ≤ 1000000, c.2.1.length ≤ 1000000], spec := fun (c, f, _) => (turnP c f, fltS c f, ()) }
theorem vc18 : ∀ (c : Cab) (f : Flt), wpF Tryz.prog G116 (na ()) Tryz.f18 cTurn (c, f, ()) = (List.length c.fst ≤ (1000000 : Nat) → List.length c.snd.fst ≤ (1000000 : Nat) → (List.length c.1 ≤ (1000000 : Nat) ∧ List.length c.snd.1 ≤ (1000000 : Nat)) ∧ ((fltS (c.1, c.snd.1, c.snd.snd.fst, c.snd.snd.snd) (f.fst, f.snd.fst, f.snd.snd.fst, f.snd.snd.snd) != (0 : Int)) = true → ((0 : Int), (0 : Int), (0 : Int), (0 : Int)) = turnP c f ∧ fltS (c.1, c.snd.1, c.snd.snd.fst, c.snd.snd.snd) (f.fst, f.snd.fst, f.snd.snd.fst, f.snd.snd.snd) = fltS c f) ∧ ((fltS (c.1, c.snd.1, c.snd.snd.fst, c.snd.snd.snd) (f.fst, f.snd.fst, f.snd.snd.fst, f.snd.snd.snd) != (0 : Int)) = false → (((-9223372036854775808 : Int) ≤ (↑(List.length c.fst) : Int) - (1 : Int) ∧ (↑(List.length c.fst) : Int) - (1 : Int) ≤ (9223372036854775807 : Int)) ∧ ((-9223372036854775808 : Int) ≤ (↑(List.length c.fst) : Int) - (1 : Int) - f.fst ∧ (↑(List.length c.fst) : Int) - (1 : Int) - f.fst ≤ (9223372036854775807 : Int)) ∧ ((0 : Int) ≤ f.fst ∧ f.fst < (↑(List.length c.fst) : Int)) ∧ ((0 : Int) ≤ f.fst ∧ f.fst < (↑(List.length c.fst) : Int)) ∧ (-9223372036854775808 : Int) ≤ (List.getD c.fst (Int.toNat f.fst) ((0 : Int), (0 : Int))).snd - f.snd.fst ∧ (List.getD c.fst (Int.toNat f.fst) ((0 : Int), (0 : Int))).snd - f.snd.fst ≤ (9223372036854775807 : Int)) ∧ ((↑(List.length c.fst) : Int) - (1 : Int) - f.fst, (List.getD c.fst (Int.toNat f.fst) ((0 : Int), (0 : Int))).snd - f.snd.fst, f.snd.snd.fst, f.snd.snd.snd) = turnP c f ∧ (0 : Int) = fltS c f)) := by
 intros
 kernel_rfl
theorem wp18 (c : Cab) (f : Flt) : wpF Tryz.prog G116 (na ()) Tryz.f18 cTurn (c, f, ()) := by
 refine (vc18 c f).mpr ?_
 intro h1 h2
 refine ⟨⟨h1, h2⟩, fun h => ?_, fun h => ?_⟩
 ·have h : ¬ fltS c f = 0 := bne_iff_ne.1 h
  unfold turnP; rw [if_neg h]; exact ⟨rfl, rfl⟩
 ·have h : fltS c f = 0 := bne_eq_false_iff_eq.1 h
  obtain ⟨hv, g1, g2, _⟩ := (fltS_V h).2
  have hl := hv.2.1
  have b := hv.2.2.1 _ (getD_mem (d := (0, 0)) (l := c.1) (k := f.1.toNat) (by omega))
  unfold turnP; rw [if_pos h, h]
  exact ⟨⟨by omega, by omega, g1, g1, by omega⟩, rfl, rfl⟩
theorem ok18 [Sx.Dr] : Ok Tryz.prog 18 cTurn := ok_of_wp mixed g116 (by kernel_rfl) (by kernel_rfl) na fun xx => wp18 xx.1 xx.2.1
abbrev G117 : Gam := (18, cTurn) :: G116
theorem g117 [Sx.Dr] : GamOk Tryz.prog G117 := .cons ok18 g116
def cTurnR : Con := { args := [aCR, aF], ress := [(true, sFlt)], owns := [], pre := fun (c, f, _) => [fltS c f = 0], spec := fun (c, f, _) => (turnF c f, ()) }
theorem vc26 : ∀ (c : Cab) (f : Flt), wpF Tryz.prog G117 (na ()) Tryz.f26 cTurnR (c, f, ()) = (fltS c f = (0 : Int) → (((-9223372036854775808 : Int) ≤ (↑(List.length c.fst) : Int) - (1 : Int) ∧ (↑(List.length c.fst) : Int) - (1 : Int) ≤ (9223372036854775807 : Int)) ∧ ((-9223372036854775808 : Int) ≤ (↑(List.length c.fst) : Int) - (1 : Int) - f.fst ∧ (↑(List.length c.fst) : Int) - (1 : Int) - f.fst ≤ (9223372036854775807 : Int)) ∧ ((0 : Int) ≤ f.fst ∧ f.fst < (↑(List.length c.fst) : Int)) ∧ ((0 : Int) ≤ f.fst ∧ f.fst < (↑(List.length c.fst) : Int)) ∧ (-9223372036854775808 : Int) ≤ (List.getD c.fst (Int.toNat f.fst) ((0 : Int), (0 : Int))).snd - f.snd.fst ∧ (List.getD c.fst (Int.toNat f.fst) ((0 : Int), (0 : Int))).snd - f.snd.fst ≤ (9223372036854775807 : Int)) ∧ ((↑(List.length c.fst) : Int) - (1 : Int) - f.fst, (List.getD c.fst (Int.toNat f.fst) ((0 : Int), (0 : Int))).snd - f.snd.fst, f.snd.snd.fst, f.snd.snd.snd) = turnF c f) := by
 intros
 kernel_rfl
theorem wp26 (c : Cab) (f : Flt) : wpF Tryz.prog G117 (na ()) Tryz.f26 cTurnR (c, f, ()) := by
 refine (vc26 c f).mpr ?_
 intro h
 obtain ⟨hv, g1, g2, _⟩ := (fltS_V h).2
 have hl := hv.2.1
 have b := hv.2.2.1 _ (getD_mem (d := (0, 0)) (l := c.1) (k := f.1.toNat) (by omega))
 exact ⟨⟨by omega, by omega, g1, g1, by omega⟩, rfl⟩
theorem ok26 [Sx.Dr] : Ok Tryz.prog 26 cTurnR := ok_of_wp mixed g117 (by kernel_rfl) (by kernel_rfl) na fun xx => wp26 xx.1 xx.2.1
abbrev G118 : Gam := (26, cTurnR) :: G117
theorem g118 [Sx.Dr] : GamOk Tryz.prog G118 := .cons ok26 g117
def splE (c : Cab) (s t : Int) : Int := if cabS c = 0 then (if secE c s = 0 then offE c s t else 10) else cabS c
def cSplE : Con := { args := [aCR, aI, aI], ress := [I], owns := [], pre := fun (c, _) => [c.1.length ≤ 1000000, c.2.1.length ≤ 1000000], spec := fun (c, s, t, _) => (splE c s t, ()) }
theorem vc69 : ∀ (c : Cab) (s t : Int), wpF Tryz.prog G118 (na ()) Tryz.f69 cSplE (c, s, t, ()) = (List.length c.fst ≤ (1000000 : Nat) → List.length c.snd.fst ≤ (1000000 : Nat) → (List.length c.1 ≤ (1000000 : Nat) ∧ List.length c.snd.1 ≤ (1000000 : Nat)) ∧ ((cabS (c.1, c.snd.1, c.snd.snd.fst, c.snd.snd.snd) != (0 : Int)) = true → cabS (c.1, c.snd.1, c.snd.snd.fst, c.snd.snd.snd) = splE c s t) ∧ ((cabS (c.1, c.snd.1, c.snd.snd.fst, c.snd.snd.snd) != (0 : Int)) = false → ((bif decide (s < (0 : Int)) then true else decide ((↑(List.length c.fst) : Int) ≤ s)) = true → (10 : Int) = splE c s t) ∧ ((bif decide (s < (0 : Int)) then true else decide ((↑(List.length c.fst) : Int) ≤ s)) = false → (((0 : Int) ≤ s ∧ s < (↑(List.length c.fst) : Int)) ∧ ((0 : Int) ≤ s ∧ s < (↑(List.length c.fst) : Int)) ∧ (-9223372036854775808 : Int) ≤ (List.getD c.fst (Int.toNat s) ((0 : Int), (0 : Int))).snd - (1 : Int) ∧ (List.getD c.fst (Int.toNat s) ((0 : Int), (0 : Int))).snd - (1 : Int) ≤ (9223372036854775807 : Int)) ∧ withinS t (1 : Int) ((List.getD c.fst (Int.toNat s) ((0 : Int), (0 : Int))).snd - (1 : Int)) = splE c s t))) := by
 intros
 kernel_rfl
theorem wp69 (c : Cab) (s t : Int) : wpF Tryz.prog G118 (na ()) Tryz.f69 cSplE (c, s, t, ()) := by
 refine (vc69 c s t).mpr ?_
 intro h1 h2
 refine ⟨⟨h1, h2⟩, fun h => ?_, fun h => ?_⟩
 ·have h : ¬ cabS c = 0 := bne_iff_ne.1 h
  unfold splE; rw [if_neg h]
 have hc : cabS c = 0 := bne_eq_false_iff_eq.1 h
 unfold splE
 rw [if_pos hc]
 have e : (bif decide (s < 0) then true else decide ((c.1.length : Int) ≤ s)) = true ↔ secE c s ≠ 0 := by
  unfold secE
  cases decide (s < 0) <;> cases decide ((c.1.length : Int) ≤ s) <;> simp
 refine ⟨fun h => ?_, fun h => ?_⟩
 ·rw [if_neg (e.1 h)]
 ·have hs : secE c s = 0 := by
   by_cases hs : secE c s = 0
   ·exact hs
   ·have := e.2 hs; rw [h] at this; cases this
  have hr := secE_zero.1 hs
  have hv : cabV c := cabS_V hc
  have b := hv.2.2.1 _ (getD_mem (d := (0, 0)) (l := c.1) (k := s.toNat) (by omega))
  rw [if_pos hs]
  exact ⟨⟨hr, hr, by omega, by omega⟩, rfl⟩
theorem ok69 [Sx.Dr] : Ok Tryz.prog 69 cSplE := ok_of_wp mixed g118 (by kernel_rfl) (by kernel_rfl) na fun xx => wp69 xx.1 xx.2.1 xx.2.2.1
abbrev G119 : Gam := (69, cSplE) :: G118
theorem g119 [Sx.Dr] : GamOk Tryz.prog G119 := .cons ok69 g118
end Go.Proofs.YtcledkhhecdppaaGreatDoor
namespace Go.Proofs.YtcledkhhecdppaaGreatDoor
instance drOff : Sx.Dr := Sx.Dr.off
open Go.Sx
set_option maxHeartbeats 20000000
set_option pp.deepTerms true
set_option pp.maxSteps 1000000
def cIns117 : Con := { args := [], ress := [], owns := [], pre := fun _ => [False], spec := fun _ => (), prim := some (insP 166 sPt) }
theorem ok117 : Ok Tryz.prog 117 cIns117 := ⟨⟨Tryz.f117, by kernel_rfl, by kernel_rfl, by kernel_rfl⟩, fun z hz => (by cases hz), fun F hF => (by cases hF; exact insP_ok fun w B v n flat i vb vc vcur vs => Tryz.ins117 w B v n flat i vb vc vcur vs), fun _ x M R w vs _ _ hpre _ => False.elim hpre⟩
abbrev G120 : Gam := (117, cIns117) :: G119
theorem g120 : GamOk Tryz.prog G120 := .cons ok117 g119
def cIns118 : Con := { args := [], ress := [], owns := [], pre := fun _ => [False], spec := fun _ => (), prim := some (insP 3 sI) }
theorem ok118 : Ok Tryz.prog 118 cIns118 := ⟨⟨Tryz.f118, by kernel_rfl, by kernel_rfl, by kernel_rfl⟩, fun z hz => (by cases hz), fun F hF => (by cases hF; exact insP_ok fun w B v n flat i vb vc vcur vs => Tryz.ins118 w B v n flat i vb vc vcur vs), fun _ x M R w vs _ _ hpre _ => False.elim hpre⟩
abbrev G121 : Gam := (118, cIns118) :: G120
theorem g121 : GamOk Tryz.prog G121 := .cons ok118 g120
def cClone (T : TypeId) (s : Sch) : Con := { args := [.val false (.list T s)], ress := [(false, .list T s)], owns := [true], pre := fun (l, _) => [l.length ≤ 1000000], spec := fun (l, _) => (l, ()) }
theorem repL_ints {M : Nat → Prop} {w : World} : ∀ {xs : List Int} {flat : List Value}, RepL (Rep M w (.int .i64)) xs flat → flat = xs.map (Value.int .i64)
 | [], _, h => h
 | x :: xs, _, ⟨c1, c2, rfl, h1, h2⟩ => by
  have h1 : c1 = [.int .i64 x] := h1
  rw [h1, repL_ints h2]; rfl
theorem repL_mkI {M : Nat → Prop} {w : World} : ∀ (xs : List Int), RepL (Rep M w (.int .i64)) xs (xs.map (Value.int .i64))
 | [] => rfl
 | x :: xs => ⟨[.int .i64 x], xs.map (Value.int .i64), rfl, rfl, repL_mkI xs⟩
theorem ok119 : Ok Tryz.prog 119 (cClone 3 sI) := by
 refine ⟨⟨Tryz.f119, by kernel_rfl, by kernel_rfl, by kernel_rfl⟩, fun z hz => (by cases hz), fun F hF => (by cases hF), fun _ x M R w vs hM hg hpre hargs => ?_⟩
 obtain ⟨l, u⟩ := x
 obtain ⟨v1, vs1, rfl, ⟨cs, rfl, hr⟩, hn⟩ := hargs
 have hn : vs1 = [] := hn
 subst hn
 obtain ⟨v, flat, rfl, h1, h2⟩ := hr
 have hfl := repL_ints h1
 have hl : l.length ≤ 1000000 := hpre
 have fin : ∀ (v' : Value) (w' : World), w'.ownsRow w.heap.size 3 1 v' l.length (l.map (Value.int .i64)) → RowKit.Below w.heap.size w w' → Post M w (cClone 3 sI).ress (cClone 3 sI).owns ((cClone 3 sI).spec (l, u)) (.returned v') w' := by
  intro v' w' ho hb
  refine ⟨M, [v'], rfl, .ofK hb, fun _ h => h, fun b h => .inl h, _, [], rfl, ⟨l.map (Value.int .i64), repL_mkI l, ho, fun g hg' hMg => ?_⟩, rfl⟩
  rcases ho.2 with ⟨rfl, _⟩ | ⟨g', cap, cur, rfl, hbg, _⟩
  ·cases hg'
  ·have : g' = g := Option.some.inj hg'
   have := hM g (.inl hMg)
   omega
 rcases h2 with ⟨rfl | ⟨ad, cap, rfl⟩, h0⟩ | ⟨b, off, cap, rfl, hcap, hk, hm⟩
 ·have : l = [] := List.eq_nil_of_length_eq_zero h0
  subst this
  refine (Tryz.slices_Clone_int_nil 0 0 w).mono ?_
  rintro e w' ⟨rfl, rfl⟩
  exact fin _ _ ⟨rfl, .inl ⟨rfl, rfl⟩⟩ (RowKit.Below.refl _ _)
 ·have : l = [] := List.eq_nil_of_length_eq_zero h0
  subst this
  refine (Tryz.slices_Clone_int_zero ad cap w).mono ?_
  rintro e w' ⟨v', rfl, ho, _, hb⟩
  exact fin _ _ ho hb
 ·refine (Tryz.slices_Clone_int b off l.length cap l w (Nat.le_refl _) (by omega) (fun j hj => hk j _ (by rw [hfl, List.getElem?_map, List.getElem?_eq_getElem hj]; simp [List.getD_eq_getElem?_getD, List.getElem?_eq_getElem hj]))).mono ?_
  rintro e w' ⟨v', rfl, ho, _, hb⟩
  rw [List.take_of_length_le (Nat.le_refl _)] at ho
  exact fin _ _ ho hb
abbrev G122 : Gam := (119, (cClone 3 sI)) :: G121
theorem g122 : GamOk Tryz.prog G122 := .cons ok119 g121
def splGE (c : Cab) (s t : Int) : Int := if c.1.length = 6 then 5 else if partQ (c.1.getD s.toNat (0, 0)) t = 0 then 16 else 0
def splG (c : Cab) (s t : Int) : Cab := if splGE c s t = 0 then splitC c s.toNat t else ([], [], 0, 0)
def splF (c : Cab) (s t : Int) : Cab := if splE c s t = 0 then splG c s t else ([], [], 0, 0)
def splEE (c : Cab) (s t : Int) : Int := if splE c s t = 0 then splGE c s t else splE c s t
def cSplit : Con := { args := [aC, aI, aI], ress := [(true, sCab 166), I], owns := [], pre := fun (c, _) => [c.1.length ≤ 1000000, c.2.1.length ≤ 1000000], spec := fun (c, s, t, _) => (splF c s t, splEE c s t, ()) }
theorem split_set {α : Type} {y : α} : ∀ {l : List α} {s : Nat}, s < l.length → (l.set s y).take s = l.take s ∧ (l.set s y).drop s = y :: l.drop (s + 1)
 | [], _, h => absurd h (by simp)
 | _ :: _, 0, _ => ⟨rfl, rfl⟩
 | x :: l, s + 1, h => by
  have ih := split_set (y := y) (l := l) (s := s) (by simpa using h)
  exact ⟨congrArg (x :: ·) ih.1, ih.2⟩
theorem fs2 (c : Cab) (s : Int) : firstS [cabS c, secE c s] = if cabS c = 0 then secE c s else cabS c := by
 simp only [firstS]
 by_cases h : cabS c = 0
 ·rw [if_pos h, if_pos h]
  by_cases h2 : secE c s = 0
  ·rw [if_pos h2, h2]
  ·rw [if_neg h2]
 ·rw [if_neg h, if_neg h]
theorem splE_ne {c : Cab} {s : Int} (t : Int) (h : firstS [cabS c, secE c s] ≠ 0) : splE c s t = firstS [cabS c, secE c s] := by
 rw [fs2] at h ⊢
 unfold splE
 by_cases hc : cabS c = 0
 ·rw [if_pos hc] at h
  rw [if_pos hc, if_pos hc, if_neg h]
  rcases secE_cases c s with q | q
  ·exact absurd q h
  ·exact q.symm
 ·rw [if_neg hc, if_neg hc]
theorem splGE_first (c : Cab) (s t : Int) : firstS [bif (c.1.length : Int) == 6 then 5 else 0, bif partQ (c.1.getD s.toNat (0, 0)) t == 0 then 16 else 0] = splGE c s t := by
 unfold splGE
 rw [zero_ite]
 by_cases h : c.1.length = 6
 ·have e : ((c.1.length : Int) == 6) = true := by rw [h]; rfl
  rw [e, if_pos h]; rfl
 ·have e : ((c.1.length : Int) == 6) = false := beq_eq_false_iff_ne.2 (by omega)
  rw [e, if_neg h]
  by_cases h2 : partQ (c.1.getD s.toNat (0, 0)) t = 0
  ·rw [if_pos h2]; rfl
  ·rw [if_neg h2]; rfl
def vc54_0 (c : Cab) (s t : Int) := (List.getD c.fst (Int.toNat s) ((0 : Int), (0 : Int)))
def vc54_1 (c : Cab) (s t : Int) := (List.set c.1 (Int.toNat s) ((vc54_0 c s t).fst - Int.tdiv ((vc54_0 c s t).fst * t) (vc54_0 c s t).snd, (vc54_0 c s t).snd - t))
def vc54_2 (c : Cab) (s t : Int) := (c.1, c.snd.1, c.snd.snd.fst, c.snd.snd.snd)
theorem vc54 : ∀ (c : Cab) (s t : Int), wpF Tryz.prog G122 (na ()) Tryz.f54 cSplit (c, s, t, ()) = (List.length c.fst ≤ (1000000 : Nat) → List.length c.snd.fst ≤ (1000000 : Nat) → (List.length c.1 ≤ (1000000 : Nat) ∧ List.length c.snd.1 ≤ (1000000 : Nat) ∧ List.length c.1 ≤ (1000000 : Nat) ∧ (2 : Nat) ≤ (1000000 : Nat)) ∧ ((firstS [cabS (vc54_2 c s t), secE (vc54_2 c s t) s] != (0 : Int)) = true → ([], [], (0 : Int), (0 : Int)) = splF c s t ∧ firstS [cabS (vc54_2 c s t), secE (vc54_2 c s t) s] = splEE c s t) ∧ ((firstS [cabS (vc54_2 c s t), secE (vc54_2 c s t) s] != (0 : Int)) = false → (((0 : Int) ≤ s ∧ s < (↑(List.length c.fst) : Int)) ∧ (0 : Int) ≤ s ∧ s < (↑(List.length c.fst) : Int)) ∧ (cabS (vc54_2 c s t) = (0 : Int) ∧ (0 : Int) ≤ s ∧ s < (↑(List.length c.1) : Int)) ∧ ((offE (vc54_2 c s t) s t != (0 : Int)) = true → ([], [], (0 : Int), (0 : Int)) = splF c s t ∧ offE (vc54_2 c s t) s t = splEE c s t) ∧ ((offE (vc54_2 c s t) s t != (0 : Int)) = false → (((-9223372036854775808 : Int) ≤ (vc54_0 c s t).fst * t ∧ (vc54_0 c s t).fst * t ≤ (9223372036854775807 : Int)) ∧ ((vc54_0 c s t).snd = (0 : Int) → False) ∧ (-9223372036854775808 : Int) ≤ Int.tdiv ((vc54_0 c s t).fst * t) (vc54_0 c s t).snd ∧ Int.tdiv ((vc54_0 c s t).fst * t) (vc54_0 c s t).snd ≤ (9223372036854775807 : Int)) ∧ (2 : Nat) ≤ (1000000 : Nat) ∧ ((firstS [bif (↑(List.length c.fst) : Int) == (6 : Int) then (5 : Int) else (0 : Int), bif Int.tdiv ((vc54_0 c s t).fst * t) (vc54_0 c s t).snd == (0 : Int) then (16 : Int) else (0 : Int)] != (0 : Int)) = true → ([], [], (0 : Int), (0 : Int)) = splF c s t ∧ firstS [bif (↑(List.length c.fst) : Int) == (6 : Int) then (5 : Int) else (0 : Int), bif Int.tdiv ((vc54_0 c s t).fst * t) (vc54_0 c s t).snd == (0 : Int) then (16 : Int) else (0 : Int)] = splEE c s t) ∧ ((firstS [bif (↑(List.length c.fst) : Int) == (6 : Int) then (5 : Int) else (0 : Int), bif Int.tdiv ((vc54_0 c s t).fst * t) (vc54_0 c s t).snd == (0 : Int) then (16 : Int) else (0 : Int)] != (0 : Int)) = false → (((0 : Int) ≤ (↑(List.length c.fst) : Int) ∧ (↑(List.length c.fst) : Int) ≤ (1000000 : Int)) ∧ (↑(List.length c.fst) : Int) ≤ (↑(List.length c.fst) : Int) ∧ (↑(List.length c.fst) : Int) ≤ (1000000 : Int)) ∧ (List.length c.1 = List.length (List.replicate (List.length c.fst) ((0 : Int), (0 : Int))) ∧ (0 : Nat) < List.length (List.replicate (List.length c.fst) ((0 : Int), (0 : Int)))) ∧ (((-9223372036854775808 : Int) ≤ (vc54_0 c s t).fst - Int.tdiv ((vc54_0 c s t).fst * t) (vc54_0 c s t).snd ∧ (vc54_0 c s t).fst - Int.tdiv ((vc54_0 c s t).fst * t) (vc54_0 c s t).snd ≤ (9223372036854775807 : Int)) ∧ ((-9223372036854775808 : Int) ≤ (vc54_0 c s t).snd - t ∧ (vc54_0 c s t).snd - t ≤ (9223372036854775807 : Int)) ∧ ((0 : Int) ≤ s ∧ s < (↑(List.length c.1) : Int)) ∧ (0 : Int) ≤ s ∧ s < (↑(List.length c.1) : Int)) ∧ (((0 : Int) ≤ s ∧ s ≤ (↑(List.length (vc54_1 c s t)) : Int)) ∧ (1 : Nat) = (1 : Nat) ∧ List.length (vc54_1 c s t) ≤ (1000000 : Nat) ∧ List.length c.snd.1 ≤ (1000000 : Nat) ∧ ((0 : Int) ≤ s ∧ s ≤ (↑(List.length c.snd.1) : Int)) ∧ (1 : Nat) = (1 : Nat) ∧ List.length c.snd.1 ≤ (1000000 : Nat)) ∧ (List.take (Int.toNat s) (vc54_1 c s t) ++ [(Int.tdiv ((vc54_0 c s t).fst * t) (vc54_0 c s t).snd, t)] ++ List.drop (Int.toNat s) (vc54_1 c s t), List.take (Int.toNat s) c.snd.1 ++ [(0 : Int)] ++ List.drop (Int.toNat s) c.snd.1, c.snd.snd.fst, c.snd.snd.snd) = splF c s t ∧ (0 : Int) = splEE c s t)))) := by
 intros
 kernel_rfl
theorem wp54 (c : Cab) (s t : Int) : wpF Tryz.prog G122 (na ()) Tryz.f54 cSplit (c, s, t, ()) := by
 refine (vc54 c s t).mpr ?_
 delta vc54_0 vc54_1 vc54_2
 intro h1 h2
 refine ⟨⟨h1, h2, h1, by omega⟩, fun h => ?_, fun h => ?_⟩
 ·have h : ¬ firstS [cabS c, secE c s] = 0 := bne_iff_ne.1 h
  have e := splE_ne t h
  have h' : ¬ splE c s t = 0 := by rw [e]; exact h
  unfold splF splEE
  rw [if_neg h', if_neg h', e]
  exact ⟨rfl, rfl⟩
 have hz : firstS [cabS c, secE c s] = 0 := bne_eq_false_iff_eq.1 h
 have hc : cabS c = 0 := by
  by_cases hc : cabS c = 0
  ·exact hc
  ·rw [fs2, if_neg hc] at hz; exact absurd hz hc
 have hs : secE c s = 0 := by rw [fs2, if_pos hc] at hz; exact hz
 have hr := secE_zero.1 hs
 have hv : cabV c := cabS_V hc
 have he : splE c s t = offE c s t := by unfold splE; rw [if_pos hc, if_pos hs]
 refine ⟨⟨hr, hr⟩, ⟨hc, hr⟩, fun h => ?_, fun h => ?_⟩
 ·have h' : ¬ splE c s t = 0 := by rw [he]; exact bne_iff_ne.1 h
  unfold splF splEE
  rw [if_neg h', if_neg h', he]
  exact ⟨rfl, rfl⟩
 have ho : offE c s t = 0 := bne_eq_false_iff_eq.1 h
 have h0 : splE c s t = 0 := by rw [he]; exact ho
 have b := hv.2.2.1 _ (getD_mem (d := (0, 0)) (l := c.1) (k := s.toNat) (by omega))
 have ht := within_zero.1 ho
 have hq := partQ_bd (t := t) b (by omega)
 have eq : ((c.1.getD s.toNat (0, 0)).1 * t).tdiv (c.1.getD s.toNat (0, 0)).2 = partQ (c.1.getD s.toNat (0, 0)) t := rfl
 rw [eq, splGE_first]
 have hm : 0 ≤ (c.1.getD s.toNat (0, 0)).1 * t := Int.mul_nonneg (by omega) (by omega)
 have hm2 : (c.1.getD s.toNat (0, 0)).1 * t ≤ 100000 * 64 := Int.mul_le_mul (by omega) (by omega) (by omega) (by omega)
 have eF : splF c s t = splG c s t := by unfold splF; rw [if_pos h0]
 have eE : splEE c s t = splGE c s t := by unfold splEE; rw [if_pos h0]
 rw [eF, eE]
 refine ⟨⟨by omega, fun h => by omega, by omega⟩, by omega, fun h => ?_, fun h => ?_⟩
 ·unfold splG
  rw [if_neg (bne_iff_ne.1 h)]
  exact ⟨rfl, rfl⟩
 have hg : splGE c s t = 0 := bne_eq_false_iff_eq.1 h
 have hs' : s.toNat < c.1.length := by omega
 have hl := hv.2.1
 have hl2 := hv.2.2.2.1
 have q1 : 0 ≤ s ∧ s ≤ (c.2.1.length : Int) := by omega
 have q2 : ∀ y, 0 ≤ s ∧ s ≤ ((c.1.set s.toNat y).length : Int) := fun y => by rw [List.length_set]; omega
 have q3 : ∀ y, (c.1.set s.toNat y).length ≤ 1000000 := fun y => by rw [List.length_set]; omega
 refine ⟨⟨by omega, by omega⟩, ⟨by simp, by simp; omega⟩, ⟨by omega, by omega, hr, hr⟩, ⟨q2 _, rfl, q3 _, h2, q1, rfl, h2⟩, ?_, hg.symm⟩
 have e := split_set (y := ((c.1.getD s.toNat (0, 0)).1 - partQ (c.1.getD s.toNat (0, 0)) t, (c.1.getD s.toNat (0, 0)).2 - t)) hs'
 unfold splG
 rw [if_pos hg]
 rw [e.1, e.2]
 unfold splitC splitL
 rw [List.append_assoc, List.append_assoc]
 rfl
theorem ok54 : Ok Tryz.prog 54 cSplit := ok_of_wp mixed g122 (by kernel_rfl) (by kernel_rfl) na fun xx => wp54 xx.1 xx.2.1 xx.2.2.1
abbrev G123 : Gam := (54, cSplit) :: G122
theorem g123 : GamOk Tryz.prog G123 := .cons ok54 g122
set_option maxHeartbeats 20000000
def joinS (xs : List ByteArray) (sep : ByteArray) : ByteArray := ⟨(Lib.join (xs.map (·.data.toList)) sep.data.toList).toArray⟩
def cJoin : Con := { args := [.val false (.list 9 .str), aS], ress := [tS], owns := [], pre := fun (xs, sep, _) => [xs.length ≤ 1000000, (Lib.join (xs.map (·.data.toList)) sep.data.toList).length ≤ 140737488355328], spec := fun (xs, sep, _) => (joinS xs sep, ()) }
def itoaS (n : Int) : ByteArray := ⟨(Lib.itoa n).toArray⟩
def cItoa : Con := { args := [aI], ress := [tS], owns := [], pre := fun (n, _) => [-9223372036854775808 ≤ n ∧ n ≤ 9223372036854775807], spec := fun (n, _) => (itoaS n, ()) }
theorem below_gd (w : World) (q : Nat) (os : Array Obj) : RowKit.Below w.heap.size w (Sort.grow (w.drewN q) os) :=
 ⟨rfl, rfl, rfl, by first | (simp [Sort.grow]; done) | (simp [Sort.grow]; omega), fun i hi => by
  show ((w.drewN q).heap ++ os)[i]? = _
  rw [Array.getElem?_append_left (by show i < w.heap.size; omega)]
  rfl⟩
theorem ok134 : Ok Tryz.prog 134 cItoa := by
 refine ⟨⟨Tryz.f134, by kernel_rfl, by kernel_rfl, by kernel_rfl⟩, fun z hz => (by cases hz), fun F hF => (by cases hF), fun _ x M R w vs hM hg hpre hargs => ?_⟩
 obtain ⟨n, u⟩ := x
 obtain ⟨v, vs', rfl, ha, hr⟩ := hargs
 have hr : vs' = [] := hr
 subst hr
 obtain ⟨cs, rfl, hc⟩ := ha
 have hc : cs = [.int .i64 n] := hc
 subst hc
 have hpre : -9223372036854775808 ≤ n ∧ n ≤ 9223372036854775807 := hpre
 refine (Tryz.strconv_Itoa n hpre.1 hpre.2 w (hg w (Sx.Below.refl _ _)).1).mono ?_
 rintro e w' ⟨rfl, k, os, rfl⟩
 exact ⟨M, [.string (itoaS n)], rfl, .ofK (below_gd w k os), fun _ h => h, fun b h => .inl h, _, [], rfl, ⟨_, rfl, rfl⟩, rfl⟩
theorem repL_strs {M : Nat → Prop} {w : World} : ∀ {xs : List ByteArray} {flat : List Value}, RepL (Rep M w .str) xs flat → flat = xs.map Value.string
 | [], _, h => h
 | x :: xs, flat, ⟨c1, c2, e, h1, h2⟩ => by
  have h1 : c1 = [.string x] := h1
  rw [e, h1, repL_strs h2]; rfl
theorem ok162 : Ok Tryz.prog 162 cJoin := by
 refine ⟨⟨Tryz.f162, by kernel_rfl, by kernel_rfl, by kernel_rfl⟩, fun z hz => (by cases hz), fun F hF => (by cases hF), fun _ x M R w vs hM hg hpre hargs => ?_⟩
 obtain ⟨xs, sep, u⟩ := x
 obtain ⟨v, vs', rfl, ha, v2, vs2, rfl, hb, hr⟩ := hargs
 have hr : vs2 = [] := hr
 subst hr
 obtain ⟨cs, rfl, hc⟩ := ha
 obtain ⟨cs2, rfl, hc2⟩ := hb
 have hc2 : cs2 = [.string sep] := hc2
 subst hc2
 obtain ⟨v, flat, rfl, f1, f2⟩ := hc
 obtain ⟨p1, p2⟩ := hpre
 have hflat := repL_strs f1
 have fin : ∀ (e : Ending) (w' : World), e = .returned (.string (joinS xs sep)) → RowKit.Below w.heap.size w w' → Post M w [tS] [] (joinS xs sep, ()) e w' := fun e w' he hb =>
  ⟨M, [.string (joinS xs sep)], he, .ofK hb, fun _ h => h, fun b h => .inl h, _, [], rfl, ⟨_, rfl, rfl⟩, rfl⟩
 rcases f2 with ⟨rfl | ⟨ad, cap, rfl⟩, h0⟩ | ⟨b, off, cap, rfl, hcap, hk, hm⟩
 ·have : xs = [] := List.eq_nil_of_length_eq_zero h0
  subst this
  refine (Tryz.strings_Join_none none 0 sep w).mono ?_
  rintro e w' ⟨rfl, rfl⟩
  exact fin _ _ rfl (RowKit.Below.refl _ _)
 ·have : xs = [] := List.eq_nil_of_length_eq_zero h0
  subst this
  refine (Tryz.strings_Join_none (some ad) cap sep w).mono ?_
  rintro e w' ⟨rfl, rfl⟩
  exact fin _ _ rfl (RowKit.Below.refl _ _)
 ·cases hx : xs with
  | nil =>
   subst hx
   refine (Tryz.strings_Join_none (some ⟨b, off, none⟩) cap sep w).mono ?_
   rintro e w' ⟨rfl, rfl⟩
   exact fin _ _ rfl (RowKit.Below.refl _ _)
  | cons x0 r =>
   rw [← hx]
   have hne : flat ≠ [] := by rw [hflat, hx]; simp
   refine (Tryz.strings_Join b off cap xs sep w (fun j x hj => hk j _ (by rw [hflat, List.getElem?_map, hj]; rfl)) (hM b (.inl (hm hne))) (by omega) hcap p2).mono ?_
   rintro e w' ⟨rfl, hb⟩
   exact fin _ _ rfl hb
abbrev G124 : Gam := (162, cJoin) :: G123
theorem g124 : GamOk Tryz.prog G124 := .cons ok162 g123
abbrev G125 : Gam := (134, cItoa) :: G124
theorem g125 : GamOk Tryz.prog G125 := .cons ok134 g124
def lineS (xs : List ByteArray) : ByteArray := joinS xs ⟨#[32]⟩ ++ ⟨#[10]⟩
theorem join_le {sep : List UInt8} (hs : sep.length = 1) : ∀ {l : List (List UInt8)}, (∀ x ∈ l, x.length ≤ 40) → (Lib.join l sep).length ≤ 41 * l.length
 | [], _ => by simp [Lib.join, List.intercalate]
 | [x], h => by
  have := h x (by simp)
  simp [Lib.join, List.intercalate, List.intersperse]
  omega
 | x :: y :: r, h => by
  have ih := join_le hs (l := y :: r) fun z hz => h z (by simp [List.mem_cons.1 hz])
  have hx := h x (by simp)
  have e : Lib.join (x :: y :: r) sep = x ++ sep ++ Lib.join (y :: r) sep := by simp [Lib.join, List.intercalate, List.intersperse]
  rw [e]
  simp only [List.length_append, List.length_cons] at ih ⊢
  omega
theorem joinS_size {xs : List ByteArray} (hx : ∀ x ∈ xs, x.size ≤ 40) : (Lib.join (xs.map (·.data.toList)) [32]).length ≤ 41 * xs.length := by
 have := join_le (sep := [32]) rfl (l := xs.map (·.data.toList)) fun x hx' => by
  obtain ⟨y, hy, rfl⟩ := List.mem_map.1 hx'
  exact hx y hy
 rw [List.length_map] at this
 exact this
theorem lineS_size {xs : List ByteArray} (hx : ∀ x ∈ xs, x.size ≤ 40) : (lineS xs).size ≤ 41 * xs.length + 1 := by
 have h := joinS_size hx
 have e : (lineS xs).size = (Lib.join (xs.map (·.data.toList)) [32]).length + 1 := by
  unfold lineS
  rw [ByteArray.size_append]; rfl
 omega
def cLine : Con := { args := [.val false (.list 9 .str)], ress := [tS], owns := [], pre := fun (xs, _) => [xs.length ≤ 100, ∀ x ∈ xs, x.size ≤ 40], spec := fun (xs, _) => (lineS xs, ()) }
theorem vc133 : ∀ (xs : List ByteArray), wpF Tryz.prog G125 (na ()) Tryz.f133 cLine (xs, ()) = (List.length xs ≤ (100 : Nat) → (∀ (x : ByteArray), x ∈ xs → ByteArray.size x ≤ (40 : Nat)) → (List.length xs ≤ (1000000 : Nat) ∧ List.length (Lib.join (List.map (fun (x : ByteArray) => x.data.toList) xs) [(32 : UInt8)]) ≤ (140737488355328 : Nat) ∧ (↑(ByteArray.size (joinS xs (ByteArray.mk (Array.mk [(32 : UInt8)]))) + (1 : Nat)) : Int) ≤ (9223372036854775807 : Int)) ∧ ByteArray.mk (Array.mk ((joinS xs (ByteArray.mk (Array.mk [(32 : UInt8)]))).data.toList ++ [(10 : UInt8)])) = lineS xs) := by
 intros
 kernel_rfl
theorem wp133 (xs : List ByteArray) : wpF Tryz.prog G125 (na ()) Tryz.f133 cLine (xs, ()) := by
 refine (vc133 xs).mpr ?_
 intro h1 h2
 have e := joinS_size h2
 have e2 : (joinS xs ⟨⟨[32]⟩⟩).size = (Lib.join (xs.map (·.data.toList)) [32]).length := rfl
 exact ⟨⟨by omega, Nat.le_trans e (by omega), by rw [e2]; omega⟩, rfl⟩
theorem ok133 : Ok Tryz.prog 133 cLine := ok_of_wp mixed g125 (by kernel_rfl) (by kernel_rfl) na fun xx => wp133 xx.1
abbrev G126 : Gam := (133, cLine) :: G125
theorem g126 : GamOk Tryz.prog G126 := .cons ok133 g125
def headL (c : Cab) : ByteArray := lineS [⟨#[99, 97, 98, 108, 101]⟩, itoaS c.2.2.1, itoaS c.2.2.2]
def jointL (n : Int) : ByteArray := lineS [⟨#[106, 111, 105, 110, 116]⟩, itoaS n]
def secL (x : Int × Int) : ByteArray := lineS [⟨#[115, 101, 99, 116, 105, 111, 110]⟩, itoaS x.1, itoaS x.2]
def outN (c : Cab) : Nat → ByteArray
 | 0 => headL c
 | k + 1 => (if k = 0 then outN c k else outN c k ++ jointL (c.2.1.getD (k - 1) 0)) ++ secL (c.1.getD k (0, 0))
def printS (c : Cab) : ByteArray := outN c c.1.length
theorem itoaS_size (n : Int) (h0 : -9223372036854775808 ≤ n) (h1 : n ≤ 9223372036854775807) : (itoaS n).size ≤ 40 := by
 have := Lib.itoa_length_le n h0 h1
 have e : (itoaS n).size = (Lib.itoa n).length := rfl
 omega
theorem fac_bd {c : Cab} (hv : cabV c) (k : Nat) : -8 ≤ c.2.1.getD k 0 ∧ c.2.1.getD k 0 ≤ 8 := by
 by_cases h : k < c.2.1.length
 ·exact hv.2.2.2.2.1 _ (getD_mem h)
 ·rw [List.getD_eq_getElem?_getD, List.getElem?_eq_none (by omega)]
  exact ⟨by decide, by decide⟩
theorem sec_bd {c : Cab} (hv : cabV c) (k : Nat) : (0 ≤ (c.1.getD k (0, 0)).1 ∧ (c.1.getD k (0, 0)).1 ≤ 100000) ∧ 0 ≤ (c.1.getD k (0, 0)).2 ∧ (c.1.getD k (0, 0)).2 ≤ 64 := by
 by_cases h : k < c.1.length
 ·have := hv.2.2.1 _ (getD_mem (d := (0, 0)) h)
  omega
 ·rw [List.getD_eq_getElem?_getD, List.getElem?_eq_none (by omega)]
  exact ⟨⟨by decide, by decide⟩, by decide, by decide⟩
theorem head_sm {c : Cab} (hv : cabV c) : ∀ x ∈ [(⟨#[99, 97, 98, 108, 101]⟩ : ByteArray), itoaS c.2.2.1, itoaS c.2.2.2], x.size ≤ 40 := by
 have h := hv.2.2.2.2.2
 intro x hx
 rcases List.mem_cons.1 hx with rfl | hx
 ·decide
 rcases List.mem_cons.1 hx with rfl | hx
 ·exact itoaS_size _ (by omega) (by omega)
 rcases List.mem_cons.1 hx with rfl | hx
 ·exact itoaS_size _ (by omega) (by omega)
 ·cases hx
theorem joint_sm {n : Int} (h : -8 ≤ n ∧ n ≤ 8) : ∀ x ∈ [(⟨#[106, 111, 105, 110, 116]⟩ : ByteArray), itoaS n], x.size ≤ 40 := by
 intro x hx
 rcases List.mem_cons.1 hx with rfl | hx
 ·decide
 rcases List.mem_cons.1 hx with rfl | hx
 ·exact itoaS_size _ (by omega) (by omega)
 ·cases hx
theorem sec_sm {p : Int × Int} (h : (0 ≤ p.1 ∧ p.1 ≤ 100000) ∧ 0 ≤ p.2 ∧ p.2 ≤ 64) : ∀ x ∈ [(⟨#[115, 101, 99, 116, 105, 111, 110]⟩ : ByteArray), itoaS p.1, itoaS p.2], x.size ≤ 40 := by
 intro x hx
 rcases List.mem_cons.1 hx with rfl | hx
 ·decide
 rcases List.mem_cons.1 hx with rfl | hx
 ·exact itoaS_size _ (by omega) (by omega)
 rcases List.mem_cons.1 hx with rfl | hx
 ·exact itoaS_size _ (by omega) (by omega)
 ·cases hx
theorem jointL_size {n : Int} (h : -8 ≤ n ∧ n ≤ 8) : (jointL n).size ≤ 83 := lineS_size (joint_sm h)
theorem secL_size {p : Int × Int} (h : (0 ≤ p.1 ∧ p.1 ≤ 100000) ∧ 0 ≤ p.2 ∧ p.2 ≤ 64) : (secL p).size ≤ 124 := lineS_size (sec_sm h)
theorem outN_size {c : Cab} (hv : cabV c) : ∀ k, (outN c k).size ≤ 124 + 207 * k
 | 0 => lineS_size (head_sm hv)
 | k + 1 => by
  have ih := outN_size hv k
  have h1 := secL_size (sec_bd hv k)
  have h2 := jointL_size (fac_bd hv (k - 1))
  unfold outN
  rw [ByteArray.size_append]
  split
  ·omega
  ·rw [ByteArray.size_append]; omega
abbrev annPrint (c : Cab) : Ann := { X := Nat, σ := fun k => ⟨3, [(1, .one (.ptr 2 0)), (5, .one (.str (outN c k))), (24, .one (.sl 0)), (25, .one (.int .i64 c.1.length)), (26, .one (.int .i64 k))], [(0, .imm 166 sPt c.1), (1, .imm 3 sI c.2.1), (2, .box 37 [.sl 0, .sl 1, .int .i64 c.2.2.1, .int .i64 c.2.2.2])]⟩, inv := fun k => k ≤ c.1.length, mu := fun k => c.1.length - k }
def cPrint : Con := { args := [aC], ress := [tS, I], owns := [], pre := fun (c, _) => [c.1.length ≤ 1000000, c.2.1.length ≤ 1000000], spec := fun (c, _) => (if cabS c = 0 then printS c else ⟨⟨[]⟩⟩, cabS c, ()) }
def vc76_0 (c : Cab) := (Array.mk [(115 : UInt8), (101 : UInt8), (99 : UInt8), (116 : UInt8), (105 : UInt8), (111 : UInt8), (110 : UInt8)])
def vc76_1 (c : Cab) := (Array.mk [(106 : UInt8), (111 : UInt8), (105 : UInt8), (110 : UInt8), (116 : UInt8)])
theorem vc76 : ∀ (c : Cab), wpF Tryz.prog G126 (ann0 (annPrint c)) Tryz.f76 cPrint (c, ()) = (List.length c.fst ≤ (1000000 : Nat) → List.length c.snd.fst ≤ (1000000 : Nat) → (List.length c.1 ≤ (1000000 : Nat) ∧ List.length c.snd.1 ≤ (1000000 : Nat)) ∧ ((cabS (c.1, c.snd.1, c.snd.snd.fst, c.snd.snd.snd) != (0 : Int)) = true → (ByteArray.mk (Array.mk []) = if cabS c = (0 : Int) then printS c else ByteArray.mk (Array.mk [])) ∧ cabS (c.1, c.snd.1, c.snd.snd.fst, c.snd.snd.snd) = cabS c) ∧ ((cabS (c.1, c.snd.1, c.snd.snd.fst, c.snd.snd.snd) != (0 : Int)) = false → (((-9223372036854775808 : Int) ≤ c.snd.snd.fst ∧ c.snd.snd.fst ≤ (9223372036854775807 : Int)) ∧ ((-9223372036854775808 : Int) ≤ c.snd.snd.snd ∧ c.snd.snd.snd ≤ (9223372036854775807 : Int)) ∧ (3 : Nat) ≤ (100 : Nat) ∧ ∀ (x : ByteArray), x ∈ [ByteArray.mk (Array.mk [(99 : UInt8), (97 : UInt8), (98 : UInt8), (108 : UInt8), (101 : UInt8)]), itoaS c.snd.snd.fst, itoaS c.snd.snd.snd] → ByteArray.size x ≤ (40 : Nat)) ∧ ∃ (x : Nat), (lineS [ByteArray.mk (Array.mk [(99 : UInt8), (97 : UInt8), (98 : UInt8), (108 : UInt8), (101 : UInt8)]), itoaS c.snd.snd.fst, itoaS c.snd.snd.snd] = outN c x ∧ (↑(List.length c.fst) : Int) = (↑(List.length c.fst) : Int) ∧ (0 : Int) = (↑x : Int) ∧ c.1 = c.fst ∧ c.snd.1 = c.snd.fst ∧ c.snd.snd.fst = c.snd.snd.fst ∧ c.snd.snd.snd = c.snd.snd.snd) ∧ x ≤ List.length c.fst ∧ ∀ (x : Nat), x ≤ List.length c.fst → (decide ((↑x : Int) < (↑(List.length c.fst) : Int)) = true → (((0 : Int) ≤ (↑x : Int) ∧ (↑x : Int) < (↑(List.length c.fst) : Int)) ∧ (0 : Int) ≤ (↑x : Int) ∧ (↑x : Int) < (↑(List.length c.fst) : Int)) ∧ (decide ((0 : Int) < (↑x : Int)) = true → (((-9223372036854775808 : Int) ≤ (↑x : Int) - (1 : Int) ∧ (↑x : Int) - (1 : Int) ≤ (9223372036854775807 : Int)) ∧ ((0 : Int) ≤ (↑x : Int) - (1 : Int) ∧ (↑x : Int) - (1 : Int) < (↑(List.length c.snd.fst) : Int)) ∧ ((0 : Int) ≤ (↑x : Int) - (1 : Int) ∧ (↑x : Int) - (1 : Int) < (↑(List.length c.snd.fst) : Int)) ∧ ((-9223372036854775808 : Int) ≤ List.getD c.snd.fst (Int.toNat ((↑x : Int) - (1 : Int))) (0 : Int) ∧ List.getD c.snd.fst (Int.toNat ((↑x : Int) - (1 : Int))) (0 : Int) ≤ (9223372036854775807 : Int)) ∧ (2 : Nat) ≤ (100 : Nat) ∧ (∀ (x_1 : ByteArray), x_1 ∈ [ByteArray.mk (vc76_1 c), itoaS (List.getD c.snd.fst (Int.toNat ((↑x : Int) - (1 : Int))) (0 : Int))] → ByteArray.size x_1 ≤ (40 : Nat)) ∧ (↑(ByteArray.size (outN c x) + ByteArray.size (lineS [ByteArray.mk (vc76_1 c), itoaS (List.getD c.snd.fst (Int.toNat ((↑x : Int) - (1 : Int))) (0 : Int))])) : Int) ≤ (9223372036854775807 : Int)) ∧ (((-9223372036854775808 : Int) ≤ (List.getD c.fst x ((0 : Int), (0 : Int))).fst ∧ (List.getD c.fst x ((0 : Int), (0 : Int))).fst ≤ (9223372036854775807 : Int)) ∧ ((-9223372036854775808 : Int) ≤ (List.getD c.fst x ((0 : Int), (0 : Int))).snd ∧ (List.getD c.fst x ((0 : Int), (0 : Int))).snd ≤ (9223372036854775807 : Int)) ∧ (3 : Nat) ≤ (100 : Nat) ∧ (∀ (x_1 : ByteArray), x_1 ∈ [ByteArray.mk (vc76_0 c), itoaS (List.getD c.fst x ((0 : Int), (0 : Int))).fst, itoaS (List.getD c.fst x ((0 : Int), (0 : Int))).snd] → ByteArray.size x_1 ≤ (40 : Nat)) ∧ (↑(ByteArray.size (ByteArray.mk (Array.mk ((outN c x).data.toList ++ (lineS [ByteArray.mk (vc76_1 c), itoaS (List.getD c.snd.fst (Int.toNat ((↑x : Int) - (1 : Int))) (0 : Int))]).data.toList))) + ByteArray.size (lineS [ByteArray.mk (vc76_0 c), itoaS (List.getD c.fst x ((0 : Int), (0 : Int))).fst, itoaS (List.getD c.fst x ((0 : Int), (0 : Int))).snd])) : Int) ≤ (9223372036854775807 : Int)) ∧ ((-9223372036854775808 : Int) ≤ (↑x : Int) + (1 : Int) ∧ (↑x : Int) + (1 : Int) ≤ (9223372036854775807 : Int)) ∧ ∃ (y : Nat), (ByteArray.mk (Array.mk ((Array.mk ((outN c x).data.toList ++ (lineS [ByteArray.mk (vc76_1 c), itoaS (List.getD c.snd.fst (Int.toNat ((↑x : Int) - (1 : Int))) (0 : Int))]).data.toList)).toList ++ (lineS [ByteArray.mk (vc76_0 c), itoaS (List.getD c.fst x ((0 : Int), (0 : Int))).fst, itoaS (List.getD c.fst x ((0 : Int), (0 : Int))).snd]).data.toList)) = outN c y ∧ (↑(List.length c.fst) : Int) = (↑(List.length c.fst) : Int) ∧ (↑x : Int) + (1 : Int) = (↑y : Int) ∧ c.1 = c.fst ∧ c.snd.1 = c.snd.fst ∧ c.snd.snd.fst = c.snd.snd.fst ∧ c.snd.snd.snd = c.snd.snd.snd) ∧ y ≤ List.length c.fst ∧ List.length c.fst - y < List.length c.fst - x) ∧ (decide ((0 : Int) < (↑x : Int)) = false → (((-9223372036854775808 : Int) ≤ (List.getD c.fst x ((0 : Int), (0 : Int))).fst ∧ (List.getD c.fst x ((0 : Int), (0 : Int))).fst ≤ (9223372036854775807 : Int)) ∧ ((-9223372036854775808 : Int) ≤ (List.getD c.fst x ((0 : Int), (0 : Int))).snd ∧ (List.getD c.fst x ((0 : Int), (0 : Int))).snd ≤ (9223372036854775807 : Int)) ∧ (3 : Nat) ≤ (100 : Nat) ∧ (∀ (x_1 : ByteArray), x_1 ∈ [ByteArray.mk (vc76_0 c), itoaS (List.getD c.fst x ((0 : Int), (0 : Int))).fst, itoaS (List.getD c.fst x ((0 : Int), (0 : Int))).snd] → ByteArray.size x_1 ≤ (40 : Nat)) ∧ (↑(ByteArray.size (outN c x) + ByteArray.size (lineS [ByteArray.mk (vc76_0 c), itoaS (List.getD c.fst x ((0 : Int), (0 : Int))).fst, itoaS (List.getD c.fst x ((0 : Int), (0 : Int))).snd])) : Int) ≤ (9223372036854775807 : Int)) ∧ ((-9223372036854775808 : Int) ≤ (↑x : Int) + (1 : Int) ∧ (↑x : Int) + (1 : Int) ≤ (9223372036854775807 : Int)) ∧ ∃ (y : Nat), (ByteArray.mk (Array.mk ((outN c x).data.toList ++ (lineS [ByteArray.mk (vc76_0 c), itoaS (List.getD c.fst x ((0 : Int), (0 : Int))).fst, itoaS (List.getD c.fst x ((0 : Int), (0 : Int))).snd]).data.toList)) = outN c y ∧ (↑(List.length c.fst) : Int) = (↑(List.length c.fst) : Int) ∧ (↑x : Int) + (1 : Int) = (↑y : Int) ∧ c.1 = c.fst ∧ c.snd.1 = c.snd.fst ∧ c.snd.snd.fst = c.snd.snd.fst ∧ c.snd.snd.snd = c.snd.snd.snd) ∧ y ≤ List.length c.fst ∧ List.length c.fst - y < List.length c.fst - x)) ∧ (decide ((↑x : Int) < (↑(List.length c.fst) : Int)) = false → (outN c x = if cabS c = (0 : Int) then printS c else ByteArray.mk (Array.mk [])) ∧ (0 : Int) = cabS c))) := by
 intros
 kernel_rfl
theorem wp76 (c : Cab) : wpF Tryz.prog G126 (ann0 (annPrint c)) Tryz.f76 cPrint (c, ()) := by
 refine (vc76 c).mpr ?_
 delta vc76_0 vc76_1
 intro h1 h2
 refine ⟨⟨h1, h2⟩, fun h => ?_, fun h => ?_⟩
 ·have h : ¬ cabS c = 0 := bne_iff_ne.1 h
  rw [if_neg h]; exact ⟨rfl, rfl⟩
 have hc : cabS c = 0 := bne_eq_false_iff_eq.1 h
 have hv : cabV c := cabS_V hc
 have he := hv.2.2.2.2.2
 have hl := hv.2.1
 have hl2 := hv.2.2.2.1
 refine ⟨⟨by omega, by omega, by omega, head_sm hv⟩, (0 : Nat), ⟨rfl, rfl, rfl, rfl, rfl, rfl, rfl⟩, Nat.zero_le _, fun (k : Nat) hk => ⟨fun h => ?_, fun h => ?_⟩⟩
 ·have hlt : k < c.1.length := by simpa using h
  have b1 := sec_bd hv k
  have s0 := outN_size hv k
  have s1 := secL_size b1
  refine ⟨by omega, fun h3 => ?_, fun h3 => ?_⟩
  ·have h3 : 0 < k := by simpa using h3
   have ek : ((k : Int) - 1).toNat = k - 1 := by omega
   rw [ek]
   have b2 := fac_bd hv (k - 1)
   have s2 := jointL_size b2
   have s3 : (outN c k ++ jointL (c.2.1.getD (k - 1) 0)).size = (outN c k).size + (jointL (c.2.1.getD (k - 1) 0)).size := ByteArray.size_append
   refine ⟨⟨by omega, by omega, by omega, by omega, by omega, joint_sm b2, ?_⟩, ⟨by omega, by omega, by omega, sec_sm b1, ?_⟩, by omega, (k + 1 : Nat), ⟨?_, rfl, by simp, rfl, rfl, rfl, rfl⟩, by omega, by omega⟩
   ·show (((outN c k).size + (jointL (c.2.1.getD (k - 1) 0)).size : Nat) : Int) ≤ _
    omega
   ·show (((outN c k ++ jointL (c.2.1.getD (k - 1) 0)).size + (secL (c.1.getD k (0, 0))).size : Nat) : Int) ≤ _
    omega
   ·have eo : outN c (k + 1) = (outN c k ++ jointL (c.2.1.getD (k - 1) 0)) ++ secL (c.1.getD k (0, 0)) := by rw [outN, if_neg (by omega)]
    rw [eo]
    apply ByteArray.ext
    apply Array.ext'
    simp only [ByteArray.data_append, Array.toList_append]
    rfl
  ·have h3 : ¬ 0 < k := by simpa using h3
   have h0 : k = 0 := by omega
   refine ⟨⟨by omega, by omega, by omega, sec_sm b1, ?_⟩, by omega, (k + 1 : Nat), ⟨?_, rfl, by simp, rfl, rfl, rfl, rfl⟩, by omega, by omega⟩
   ·show (((outN c k).size + (secL (c.1.getD k (0, 0))).size : Nat) : Int) ≤ _
    omega
   ·have eo : outN c (k + 1) = outN c k ++ secL (c.1.getD k (0, 0)) := by rw [outN, if_pos h0]
    rw [eo]
    apply ByteArray.ext
    apply Array.ext'
    simp only [ByteArray.data_append, Array.toList_append]
    rfl
 ·have hlt : ¬ k < c.1.length := by simpa using h
  have : k = c.1.length := by omega
  subst this
  rw [if_pos hc]
  exact ⟨rfl, hc.symm⟩
theorem ok76 : Ok Tryz.prog 76 cPrint := ok_of_wp mixed g126 (by kernel_rfl) (by kernel_rfl) (fun xx => ann0 (annPrint xx.1)) fun xx => wp76 xx.1
abbrev G127 : Gam := (76, cPrint) :: G126
theorem g127 : GamOk Tryz.prog G127 := .cons ok76 g126
set_option maxHeartbeats 20000000
def cAwake : Con := { args := [], ress := [Bo], owns := [], pre := fun _ => [], spec := fun _ => (true, ()) }
def vc16_0 := (lineC.1, lineC.snd.1, lineC.snd.snd.fst, lineC.snd.snd.snd)
def vc16_1 := (faultC.fst, faultC.snd.fst, faultC.snd.snd.fst, faultC.snd.snd.snd)
def vc16_2 := (ByteArray.mk (Array.mk [(65 : UInt8)]))
def vc16_3 := ((2 : Nat) ≤ (1000000 : Nat) ∧ (1 : Nat) ≤ (1000000 : Nat))
def vc16_4 := (((3145728 : Int), (3145728 : Int)), (2 : Int), (5505024 : Int), (10 : Int))
def vc16_5 := (ByteArray.mk (Array.mk [(66 : UInt8)]))
def vc16_6 := (((0 : Int), (1 : Int)), (12 : Int), (15 : Int), ByteArray.mk (Array.mk [(65 : UInt8)]))
theorem vc16 : wpF Tryz.prog G127 (na ()) Tryz.f16 cAwake () = (vc16_3 ∧ vc16_3 ∧ vc16_3 ∧ vc16_3 ∧ vc16_3 ∧ vc16_3 ∧ vc16_3 ∧ vc16_3 ∧ vc16_3 ∧ vc16_3 ∧ (((-9223372036854775808 : Int) ≤ cabS vc16_0 + placeE vc16_0 (6 : Int) ∧ cabS vc16_0 + placeE vc16_0 (6 : Int) ≤ (9223372036854775807 : Int)) ∧ ((-9223372036854775808 : Int) ≤ cabS vc16_0 + placeE vc16_0 (6 : Int) + winS vc16_0 vc16_1 (10 : Int) ∧ cabS vc16_0 + placeE vc16_0 (6 : Int) + winS vc16_0 vc16_1 (10 : Int) ≤ (9223372036854775807 : Int)) ∧ ((-9223372036854775808 : Int) ≤ cabS vc16_0 + placeE vc16_0 (6 : Int) + winS vc16_0 vc16_1 (10 : Int) + winS vc16_0 vc16_1 (10 : Int) ∧ cabS vc16_0 + placeE vc16_0 (6 : Int) + winS vc16_0 vc16_1 (10 : Int) + winS vc16_0 vc16_1 (10 : Int) ≤ (9223372036854775807 : Int)) ∧ ((-9223372036854775808 : Int) ≤ cabS vc16_0 + placeE vc16_0 (6 : Int) + winS vc16_0 vc16_1 (10 : Int) + winS vc16_0 vc16_1 (10 : Int) + dirEE vc16_0 vc16_1 vc16_5 ∧ cabS vc16_0 + placeE vc16_0 (6 : Int) + winS vc16_0 vc16_1 (10 : Int) + winS vc16_0 vc16_1 (10 : Int) + dirEE vc16_0 vc16_1 vc16_5 ≤ (9223372036854775807 : Int)) ∧ ((-9223372036854775808 : Int) ≤ cabS vc16_0 + placeE vc16_0 (6 : Int) + winS vc16_0 vc16_1 (10 : Int) + winS vc16_0 vc16_1 (10 : Int) + dirEE vc16_0 vc16_1 vc16_5 + factorE vc16_0 (0 : Int) vc16_5 ∧ cabS vc16_0 + placeE vc16_0 (6 : Int) + winS vc16_0 vc16_1 (10 : Int) + winS vc16_0 vc16_1 (10 : Int) + dirEE vc16_0 vc16_1 vc16_5 + factorE vc16_0 (0 : Int) vc16_5 ≤ (9223372036854775807 : Int)) ∧ ((-9223372036854775808 : Int) ≤ cabS vc16_0 + placeE vc16_0 (6 : Int) + winS vc16_0 vc16_1 (10 : Int) + winS vc16_0 vc16_1 (10 : Int) + dirEE vc16_0 vc16_1 vc16_5 + factorE vc16_0 (0 : Int) vc16_5 + factorE vc16_0 (1 : Int) vc16_2 ∧ cabS vc16_0 + placeE vc16_0 (6 : Int) + winS vc16_0 vc16_1 (10 : Int) + winS vc16_0 vc16_1 (10 : Int) + dirEE vc16_0 vc16_1 vc16_5 + factorE vc16_0 (0 : Int) vc16_5 + factorE vc16_0 (1 : Int) vc16_2 ≤ (9223372036854775807 : Int)) ∧ ((-9223372036854775808 : Int) ≤ cabS vc16_0 + placeE vc16_0 (6 : Int) + winS vc16_0 vc16_1 (10 : Int) + winS vc16_0 vc16_1 (10 : Int) + dirEE vc16_0 vc16_1 vc16_5 + factorE vc16_0 (0 : Int) vc16_5 + factorE vc16_0 (1 : Int) vc16_2 + thEE vc16_0 vc16_6 ∧ cabS vc16_0 + placeE vc16_0 (6 : Int) + winS vc16_0 vc16_1 (10 : Int) + winS vc16_0 vc16_1 (10 : Int) + dirEE vc16_0 vc16_1 vc16_5 + factorE vc16_0 (0 : Int) vc16_5 + factorE vc16_0 (1 : Int) vc16_2 + thEE vc16_0 vc16_6 ≤ (9223372036854775807 : Int)) ∧ (-9223372036854775808 : Int) ≤ cabS vc16_0 + placeE vc16_0 (6 : Int) + winS vc16_0 vc16_1 (10 : Int) + winS vc16_0 vc16_1 (10 : Int) + dirEE vc16_0 vc16_1 vc16_5 + factorE vc16_0 (0 : Int) vc16_5 + factorE vc16_0 (1 : Int) vc16_2 + thEE vc16_0 vc16_6 + locE vc16_0 ((100 : Int), (102 : Int)) ((109 : Int), (109 : Int)) ∧ cabS vc16_0 + placeE vc16_0 (6 : Int) + winS vc16_0 vc16_1 (10 : Int) + winS vc16_0 vc16_1 (10 : Int) + dirEE vc16_0 vc16_1 vc16_5 + factorE vc16_0 (0 : Int) vc16_5 + factorE vc16_0 (1 : Int) vc16_2 + thEE vc16_0 vc16_6 + locE vc16_0 ((100 : Int), (102 : Int)) ((109 : Int), (109 : Int)) ≤ (9223372036854775807 : Int)) ∧ (false = true → false = true) ∧ (false = false → (((0 : Int) ≤ (2 : Int) ∧ (2 : Int) < (6 : Int)) ∧ ((0 : Int) ≤ (2 : Int) ∧ (2 : Int) < (6 : Int)) ∧ (false = false → (0 : Int) ≤ (4 : Int) ∧ (4 : Int) < (6 : Int)) ∧ (false = false → (0 : Int) ≤ (4 : Int) ∧ (4 : Int) < (6 : Int)) ∧ (false = false → (0 : Int) ≤ (5 : Int) ∧ (5 : Int) < (6 : Int)) ∧ (false = false → (0 : Int) ≤ (5 : Int) ∧ (5 : Int) < (6 : Int)) ∧ (false = false → (4 : Nat) ≤ (1000000 : Nat)) ∧ (false = false → (4 : Nat) ≤ (1000000 : Nat))) ∧ (false = true → false = true) ∧ (false = false → (4 : Nat) ≤ (1000000 : Nat) ∧ (4 : Nat) ≤ (1000000 : Nat) ∧ vc16_3 ∧ vc16_3 ∧ vc16_3 ∧ vc16_3 ∧ vc16_3 ∧ (((-9223372036854775808 : Int) ≤ opnEE (arrP vc16_0 vc16_1 (10 : Int)) vc16_2 (105 : Int) (5505024 : Int) (10 : Int) + clrEE vc16_0 vc16_1 vc16_4 ∧ opnEE (arrP vc16_0 vc16_1 (10 : Int)) vc16_2 (105 : Int) (5505024 : Int) (10 : Int) + clrEE vc16_0 vc16_1 vc16_4 ≤ (9223372036854775807 : Int)) ∧ ((-9223372036854775808 : Int) ≤ opnEE (arrP vc16_0 vc16_1 (10 : Int)) vc16_2 (105 : Int) (5505024 : Int) (10 : Int) + clrEE vc16_0 vc16_1 vc16_4 + rcEE vc16_0 vc16_1 vc16_2 (8 : Int) ∧ opnEE (arrP vc16_0 vc16_1 (10 : Int)) vc16_2 (105 : Int) (5505024 : Int) (10 : Int) + clrEE vc16_0 vc16_1 vc16_4 + rcEE vc16_0 vc16_1 vc16_2 (8 : Int) ≤ (9223372036854775807 : Int)) ∧ ((-9223372036854775808 : Int) ≤ opnEE (arrP vc16_0 vc16_1 (10 : Int)) vc16_2 (105 : Int) (5505024 : Int) (10 : Int) + clrEE vc16_0 vc16_1 vc16_4 + rcEE vc16_0 vc16_1 vc16_2 (8 : Int) + fltS vc16_0 vc16_1 ∧ opnEE (arrP vc16_0 vc16_1 (10 : Int)) vc16_2 (105 : Int) (5505024 : Int) (10 : Int) + clrEE vc16_0 vc16_1 vc16_4 + rcEE vc16_0 vc16_1 vc16_2 (8 : Int) + fltS vc16_0 vc16_1 ≤ (9223372036854775807 : Int)) ∧ ((-9223372036854775808 : Int) ≤ opnEE (arrP vc16_0 vc16_1 (10 : Int)) vc16_2 (105 : Int) (5505024 : Int) (10 : Int) + clrEE vc16_0 vc16_1 vc16_4 + rcEE vc16_0 vc16_1 vc16_2 (8 : Int) + fltS vc16_0 vc16_1 + splEE vc16_0 (1 : Int) (2 : Int) ∧ opnEE (arrP vc16_0 vc16_1 (10 : Int)) vc16_2 (105 : Int) (5505024 : Int) (10 : Int) + clrEE vc16_0 vc16_1 vc16_4 + rcEE vc16_0 vc16_1 vc16_2 (8 : Int) + fltS vc16_0 vc16_1 + splEE vc16_0 (1 : Int) (2 : Int) ≤ (9223372036854775807 : Int)) ∧ ((-9223372036854775808 : Int) ≤ opnEE (arrP vc16_0 vc16_1 (10 : Int)) vc16_2 (105 : Int) (5505024 : Int) (10 : Int) + clrEE vc16_0 vc16_1 vc16_4 + rcEE vc16_0 vc16_1 vc16_2 (8 : Int) + fltS vc16_0 vc16_1 + splEE vc16_0 (1 : Int) (2 : Int) + cabS vc16_0 ∧ opnEE (arrP vc16_0 vc16_1 (10 : Int)) vc16_2 (105 : Int) (5505024 : Int) (10 : Int) + clrEE vc16_0 vc16_1 vc16_4 + rcEE vc16_0 vc16_1 vc16_2 (8 : Int) + fltS vc16_0 vc16_1 + splEE vc16_0 (1 : Int) (2 : Int) + cabS vc16_0 ≤ (9223372036854775807 : Int)) ∧ (true = true → (9 : Nat) ≤ (1000000 : Nat)) ∧ (true = true → (2 : Nat) ≤ (1000000 : Nat))) ∧ true = true))) := by
 intros
 kernel_rfl
theorem wp16  : wpF Tryz.prog G127 (na ()) Tryz.f16 cAwake () := by
 refine vc16.mpr ?_
 delta vc16_0 vc16_1 vc16_2 vc16_3 vc16_4 vc16_5 vc16_6
 repeat' first
  | refine And.intro ?_ ?_
  | exact fun h => Bool.noConfusion h
  | intro _
 all_goals first
  | rfl
  | exact of_decide_eq_true (by kernel_rfl)
theorem ok16 : Ok Tryz.prog 16 cAwake := ok_of_wp mixed g127 (by kernel_rfl) (by kernel_rfl) na fun xx => wp16 
abbrev G128 : Gam := (16, cAwake) :: G127
theorem g128 : GamOk Tryz.prog G128 := .cons ok16 g127
set_option maxHeartbeats 20000000
theorem short_len {c : Cab} (h : (bif false then true else !shortS c) = false) : c.1.length ≤ 7 ∧ c.2.1.length ≤ 8 := by
 have h : shortS c = true := by simpa using h
 unfold shortS at h
 simpa using h
theorem shortA_len {l : List Arr} (h : shortA l = true) : l.length ≤ 2049 := by
 unfold shortA at h
 rw [Bool.and_eq_true, Bool.or_eq_true] at h
 rcases h.2 with q | q
 ·have := of_decide_eq_true q; omega
 ·have := of_decide_eq_true q; omega
theorem bnT {b c : Bool} : (bif b then true else c) = false ↔ b = false ∧ c = false := by cases b <;> simp
theorem notF {b : Bool} : (!b) = false ↔ b = true := by cases b <;> simp
end Go.Proofs.YtcledkhhecdppaaGreatDoor
