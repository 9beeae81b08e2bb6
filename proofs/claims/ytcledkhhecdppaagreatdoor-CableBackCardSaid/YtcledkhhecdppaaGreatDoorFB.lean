/- Contracts of the functions that the laws reach: part of the proof. -/
import Derived.Test.YtcledkhhecdppaaGreatDoorFA
import Derived.KernelRfl
import Derived.Lib.ItoaLen
import Derived.Lib.ItoaMem
import Derived.Shelf.Strconv.ErrVarAll
set_option linter.unusedSimpArgs false
set_option linter.unusedVariables false
set_option maxRecDepth 20000
namespace Go.Proofs.YtcledkhhecdppaaGreatDoor
open Go.Sx
set_option maxHeartbeats 20000000
abbrev G300 : Gam := []
theorem g300 [Sx.Dr] : GamOk Tryz.prog G300 := .nil _
def shortS (c : Cab) : Bool := decide (c.1.length ≤ 7) && decide (c.2.1.length ≤ 8)
def cShort : Con := { args := [aCR], ress := [Bo], owns := [], pre := fun _ => [], spec := fun (c, _) => (shortS c, ()) }
theorem vc17 : ∀ (c : Cab), wpF Tryz.prog G300 (na ()) Tryz.f17 cShort (c, ()) = ((bif decide ((↑(List.length c.1) : Int) ≤ 7) then decide ((↑(List.length c.2.1) : Int) ≤ 8) else false) = shortS c) := by
 intros
 kernel_rfl
theorem wp17 (c : Cab) : wpF Tryz.prog G300 (na ()) Tryz.f17 cShort (c, ()) := by
 refine (vc17 c).mpr ?_
 unfold shortS
 rw [show decide (c.1.length ≤ 7) = decide ((c.1.length : Int) ≤ 7) from decide_eq_decide.2 (by omega), show decide (c.2.1.length ≤ 8) = decide ((c.2.1.length : Int) ≤ 8) from decide_eq_decide.2 (by omega)]
 cases decide ((c.1.length : Int) ≤ 7) <;> rfl
theorem ok17 [Sx.Dr] : Ok Tryz.prog 17 cShort := ok_of_wp mixed g300 (by kernel_rfl) (by kernel_rfl) na fun xx => wp17 xx.1
abbrev G301 : Gam := (17, cShort) :: G300
theorem g301 [Sx.Dr] : GamOk Tryz.prog G301 := .cons ok17 g300
abbrev G302 : Gam := G301
theorem g302 [Sx.Dr] : GamOk Tryz.prog G302 := g301
abbrev annConv (T U : TypeId) (s : Sch) (l : List s.T) : Ann := { X := Nat, σ := fun k => ⟨2, [(3, .one (.sl 1)), (6, .one (.sl 0)), (7, .one (.int .i64 l.length)), (8, .one (.int .i64 k))], [(0, .imm T s l), (1, .own U s (l.take k))]⟩, inv := fun k => k ≤ l.length, mu := fun k => l.length - k }
def cConv (T U : TypeId) (s : Sch) : Con := { args := [.val false (.list T s)], ress := [(false, .list U s)], owns := [], pre := fun (l, _) => [l.length ≤ 1000000], spec := fun (l, _) => (l, ()) }
abbrev G303 : Gam := G302
theorem g303 [Sx.Dr] : GamOk Tryz.prog G303 := g302
theorem vc34 : ∀ (l : List Arr), wpF Tryz.prog G303 (ann0 (annConv (107 : TypeId) (130 : TypeId) sArr l)) Tryz.f34 (cConv (107 : TypeId) (130 : TypeId) sArr) (l, ()) = (List.length l ≤ 1000000 → ∃ (x : Nat), ((↑(List.length l) : Int) = (↑(List.length l) : Int) ∧ 0 = (↑x : Int) ∧ l = l ∧ List.length (List.take x l) = 0) ∧ x ≤ List.length l ∧ ∀ (x : Nat), x ≤ List.length l → (decide ((↑x : Int) < (↑(List.length l) : Int)) = true → ((0 ≤ (↑x : Int) ∧ (↑x : Int) < (↑(List.length l) : Int)) ∧ 0 ≤ (↑x : Int) ∧ (↑x : Int) < (↑(List.length l) : Int)) ∧ (List.length (List.take x l) + 1) * 32 ≤ 140737488355328 ∧ ((-9223372036854775808) ≤ (↑x : Int) + 1 ∧ (↑x : Int) + (1 : Int) ≤ 9223372036854775807) ∧ ∃ (y : Nat), ((↑(List.length l) : Int) = (↑(List.length l) : Int) ∧ (↑x : Int) + 1 = (↑y : Int) ∧ l = l ∧ List.take x l ++ [((List.getD l x (0, ByteArray.mk (Array.mk []), 0)).1, (List.getD l x (0, ByteArray.mk (Array.mk []), 0)).2.1, (List.getD l x (0, ByteArray.mk (Array.mk []), 0)).2.2)] = List.take y l) ∧ y ≤ List.length l ∧ List.length l - y < List.length l - x) ∧ (decide ((↑x : Int) < (↑(List.length l) : Int)) = false → List.take x l = l)) := by
 intros
 kernel_rfl
theorem wp34 (l : List Arr) : wpF Tryz.prog G303 (ann0 (annConv 107 130 sArr l)) Tryz.f34 (cConv 107 130 sArr) (l, ()) := by
 refine (vc34 l).mpr ?_
 intro hb
 refine ⟨(0 : Nat), ⟨rfl, rfl, rfl, by simp⟩, Nat.zero_le _, fun (k : Nat) hk => ⟨fun h => ?_, fun h => ?_⟩⟩
 ·have hlt : k < l.length := by simpa using h
  have hl : (l.take k).length ≤ l.length := by simp; omega
  exact ⟨⟨by omega, by omega⟩, by omega, by omega, (k + 1 : Nat), ⟨rfl, by simp, rfl, take_snoc (d := (0, ⟨⟨[]⟩⟩, 0)) hlt⟩, by omega, by omega⟩
 ·have hge : ¬ k < l.length := by simpa using h
  rw [List.take_of_length_le (by omega)]
theorem ok34 [Sx.Dr] : Ok Tryz.prog 34 (cConv 107 130 sArr) := ok_of_wp mixed g303 (by kernel_rfl) (by kernel_rfl) (fun xx => ann0 (annConv 107 130 sArr xx.1)) fun xx => wp34 xx.1
abbrev G304 : Gam := (34, (cConv 107 130 sArr)) :: G303
theorem g304 [Sx.Dr] : GamOk Tryz.prog G304 := .cons ok34 g303
abbrev G305 : Gam := G304
theorem g305 [Sx.Dr] : GamOk Tryz.prog G305 := g304
def cOwn : Con := { args := [aCR], ress := [(true, sCab 166)], owns := [], pre := fun (c, _) => [c.1.length ≤ 1000000, c.2.1.length ≤ 1000000], spec := fun (c, _) => (c, ()) }
abbrev zC : List SC := [.val (.slice none 0 0), .val (.slice none 0 0), .int .i64 0, .int .i64 0]
abbrev annOwn (T U A B : TypeId) (c : Cab) : Ann := { X := Nat, σ := fun k => ⟨8, [(2, .one (.ptr 3 0)), (3, .one (.ptr 6 0)), (14, .one (.sl 0)), (15, .one (.int .i64 c.1.length)), (16, .one (.int .i64 k))], [(0, .imm T sPt c.1), (3, .box B zC), (5, .own 3 sI c.2.1), (6, .box B [.sl 7, .sl 5, .int .i64 c.2.2.1, .int .i64 c.2.2.2]), (7, .own U sPt (c.1.take k))]⟩, inv := fun k => k ≤ c.1.length, mu := fun k => c.1.length - k }
theorem vc19 : ∀ (c : Cab), wpF Tryz.prog G305 (ann0 (annOwn (102 : TypeId) (166 : TypeId) (26 : TypeId) (37 : TypeId) c)) Tryz.f19 cOwn (c, ()) = (List.length c.1 ≤ 1000000 → List.length c.2.1 ≤ 1000000 → (0 + List.length c.2.1) * 8 ≤ 140737488355328 ∧ ∃ (x : Nat), ((↑(List.length c.1) : Int) = (↑(List.length c.1) : Int) ∧ 0 = (↑x : Int) ∧ c.1 = c.1 ∧ Value.slice none 0 0 = Value.slice none 0 0 ∧ Value.slice none 0 0 = Value.slice none 0 0 ∧ (0 : Int) = 0 ∧ (0 : Int) = 0 ∧ c.2.1 = c.2.1 ∧ c.2.2.1 = c.2.2.1 ∧ c.2.2.2 = c.2.2.2 ∧ List.length (List.take x c.1) = 0) ∧ x ≤ List.length c.1 ∧ ∀ (x : Nat), x ≤ List.length c.1 → (decide ((↑x : Int) < (↑(List.length c.1) : Int)) = true → ((0 ≤ (↑x : Int) ∧ (↑x : Int) < (↑(List.length c.1) : Int)) ∧ 0 ≤ (↑x : Int) ∧ (↑x : Int) < (↑(List.length c.1) : Int)) ∧ (List.length (List.take x c.1) + 1) * 16 ≤ 140737488355328 ∧ ((-9223372036854775808) ≤ (↑x : Int) + 1 ∧ (↑x : Int) + (1 : Int) ≤ 9223372036854775807) ∧ ∃ (y : Nat), ((↑(List.length c.1) : Int) = (↑(List.length c.1) : Int) ∧ (↑x : Int) + 1 = (↑y : Int) ∧ c.1 = c.1 ∧ Value.slice none 0 0 = Value.slice none 0 0 ∧ Value.slice none 0 0 = Value.slice none 0 0 ∧ (0 : Int) = 0 ∧ (0 : Int) = 0 ∧ c.2.1 = c.2.1 ∧ c.2.2.1 = c.2.2.1 ∧ c.2.2.2 = c.2.2.2 ∧ List.take x c.1 ++ [((List.getD c.1 x (0, 0)).1, (List.getD c.1 x (0, 0)).2)] = List.take y c.1) ∧ y ≤ List.length c.1 ∧ List.length c.1 - y < List.length c.1 - x) ∧ (decide ((↑x : Int) < (↑(List.length c.1) : Int)) = false → (List.take x c.1, c.2.1, c.2.2.1, c.2.2.2) = c)) := by
 intros
 kernel_rfl
theorem wp19 (c : Cab) : wpF Tryz.prog G305 (ann0 (annOwn 102 166 26 37 c)) Tryz.f19 cOwn (c, ()) := by
 refine (vc19 c).mpr ?_
 intro h1 h2
 refine ⟨by show (0 + c.2.1.length) * 8 ≤ 140737488355328; omega, (0 : Nat), ⟨rfl, rfl, rfl, rfl, rfl, rfl, rfl, rfl, rfl, rfl, by simp⟩, Nat.zero_le _, fun (k : Nat) hk => ⟨fun h => ?_, fun h => ?_⟩⟩
 ·have hlt : k < c.1.length := by simpa using h
  have hl : (c.1.take k).length ≤ c.1.length := by simp; omega
  exact ⟨⟨by omega, by omega⟩, by omega, by omega, (k + 1 : Nat), ⟨rfl, by simp, rfl, rfl, rfl, rfl, rfl, rfl, rfl, rfl, take_snoc (d := (0, 0)) hlt⟩, by omega, by omega⟩
 ·have hge : ¬ k < c.1.length := by simpa using h
  rw [List.take_of_length_le (by omega)]
theorem ok19 [Sx.Dr] : Ok Tryz.prog 19 cOwn := ok_of_wp mixed g305 (by kernel_rfl) (by kernel_rfl) (fun xx => ann0 (annOwn 102 166 26 37 xx.1)) fun xx => wp19 xx.1
abbrev G306 : Gam := (19, cOwn) :: G305
theorem g306 [Sx.Dr] : GamOk Tryz.prog G306 := .cons ok19 g305
def cTold : Con := { args := [aC], ress := [(true, sCab 102)], owns := [], pre := fun (c, _) => [c.1.length ≤ 1000000, c.2.1.length ≤ 1000000], spec := fun (c, _) => (c, ()) }
theorem vc55 : ∀ (c : Cab), wpF Tryz.prog G306 (ann0 (annOwn (166 : TypeId) (102 : TypeId) (37 : TypeId) (26 : TypeId) c)) Tryz.f55 cTold (c, ()) = (List.length c.1 ≤ 1000000 → List.length c.2.1 ≤ 1000000 → (0 + List.length c.2.1) * 8 ≤ 140737488355328 ∧ ∃ (x : Nat), ((↑(List.length c.1) : Int) = (↑(List.length c.1) : Int) ∧ 0 = (↑x : Int) ∧ c.1 = c.1 ∧ Value.slice none 0 0 = Value.slice none 0 0 ∧ Value.slice none 0 0 = Value.slice none 0 0 ∧ (0 : Int) = 0 ∧ (0 : Int) = 0 ∧ c.2.1 = c.2.1 ∧ c.2.2.1 = c.2.2.1 ∧ c.2.2.2 = c.2.2.2 ∧ List.length (List.take x c.1) = 0) ∧ x ≤ List.length c.1 ∧ ∀ (x : Nat), x ≤ List.length c.1 → (decide ((↑x : Int) < (↑(List.length c.1) : Int)) = true → ((0 ≤ (↑x : Int) ∧ (↑x : Int) < (↑(List.length c.1) : Int)) ∧ 0 ≤ (↑x : Int) ∧ (↑x : Int) < (↑(List.length c.1) : Int)) ∧ (List.length (List.take x c.1) + 1) * 16 ≤ 140737488355328 ∧ ((-9223372036854775808) ≤ (↑x : Int) + 1 ∧ (↑x : Int) + (1 : Int) ≤ 9223372036854775807) ∧ ∃ (y : Nat), ((↑(List.length c.1) : Int) = (↑(List.length c.1) : Int) ∧ (↑x : Int) + 1 = (↑y : Int) ∧ c.1 = c.1 ∧ Value.slice none 0 0 = Value.slice none 0 0 ∧ Value.slice none 0 0 = Value.slice none 0 0 ∧ (0 : Int) = 0 ∧ (0 : Int) = 0 ∧ c.2.1 = c.2.1 ∧ c.2.2.1 = c.2.2.1 ∧ c.2.2.2 = c.2.2.2 ∧ List.take x c.1 ++ [((List.getD c.1 x (0, 0)).1, (List.getD c.1 x (0, 0)).2)] = List.take y c.1) ∧ y ≤ List.length c.1 ∧ List.length c.1 - y < List.length c.1 - x) ∧ (decide ((↑x : Int) < (↑(List.length c.1) : Int)) = false → (List.take x c.1, c.2.1, c.2.2.1, c.2.2.2) = c)) := by
 intros
 kernel_rfl
theorem wp55 (c : Cab) : wpF Tryz.prog G306 (ann0 (annOwn 166 102 37 26 c)) Tryz.f55 cTold (c, ()) := by
 refine (vc55 c).mpr ?_
 intro h1 h2
 refine ⟨by show (0 + c.2.1.length) * 8 ≤ 140737488355328; omega, (0 : Nat), ⟨rfl, rfl, rfl, rfl, rfl, rfl, rfl, rfl, rfl, rfl, by simp⟩, Nat.zero_le _, fun (k : Nat) hk => ⟨fun h => ?_, fun h => ?_⟩⟩
 ·have hlt : k < c.1.length := by simpa using h
  have hl : (c.1.take k).length ≤ c.1.length := by simp; omega
  exact ⟨⟨by omega, by omega⟩, by omega, by omega, (k + 1 : Nat), ⟨rfl, by simp, rfl, rfl, rfl, rfl, rfl, rfl, rfl, rfl, take_snoc (d := (0, 0)) hlt⟩, by omega, by omega⟩
 ·have hge : ¬ k < c.1.length := by simpa using h
  rw [List.take_of_length_le (by omega)]
theorem ok55 [Sx.Dr] : Ok Tryz.prog 55 cTold := ok_of_wp mixed g306 (by kernel_rfl) (by kernel_rfl) (fun xx => ann0 (annOwn 166 102 37 26 xx.1)) fun xx => wp55 xx.1
abbrev G307 : Gam := (55, cTold) :: G306
theorem g307 [Sx.Dr] : GamOk Tryz.prog G307 := .cons ok55 g306
abbrev annSame (T : TypeId) (s : Sch) (a b : List s.T) (J : Nat → Prop) : Ann := { X := Nat, σ := fun k => ⟨2, [(0, .one (.sl 0)), (1, .one (.sl 1)), (5, .one (.int .i64 k))], [(0, .imm T s a), (1, .imm T s b)]⟩, inv := fun k => k ≤ a.length ∧ a.length = b.length ∧ J k, mu := fun k => a.length - k }
theorem same_step {α : Type} {a b : List α} {k : Nat} {d : α} (h : a.take k = b.take k) (hl : a.length = b.length) (hk : k < a.length) (he : a.getD k d = b.getD k d) : a.take (k + 1) = b.take (k + 1) := by
 rw [← take_snoc (d := d) hk, ← take_snoc (d := d) (by omega), h, he]
def cSameA : Con := { args := [.val false (.list 130 sArr), .val false (.list 130 sArr)], ress := [Bo], owns := [], pre := fun (a, b, _) => [a.length ≤ 1000000], spec := fun (a, b, _) => (decide (a = b), ()) }
def cSameI : Con := { args := [.val false (.list 3 sI), .val false (.list 3 sI)], ress := [Bo], owns := [], pre := fun (a, b, _) => [a.length ≤ 1000000], spec := fun (a, b, _) => (decide (a = b), ()) }
abbrev G308 : Gam := G307
theorem g308 [Sx.Dr] : GamOk Tryz.prog G308 := g307
def vc33_0 (a b : List Arr) (x : Nat) := (!((List.getD a x ((0 : Int), ByteArray.mk (Array.mk []), (0 : Int))).1 == (List.getD b x ((0 : Int), ByteArray.mk (Array.mk []), (0 : Int))).1 && (ByteArray.toList (List.getD a x ((0 : Int), ByteArray.mk (Array.mk []), (0 : Int))).2.1 == ByteArray.toList (List.getD b x ((0 : Int), ByteArray.mk (Array.mk []), (0 : Int))).2.1 && ((List.getD a x ((0 : Int), ByteArray.mk (Array.mk []), (0 : Int))).2.2 == (List.getD b x ((0 : Int), ByteArray.mk (Array.mk []), (0 : Int))).2.2 && true))))
theorem vc33 : ∀ (a b : List Arr), wpF Tryz.prog G308 (ann0 (annSame (130 : TypeId) sArr a b fun (k : Nat) => List.take k a = List.take k b)) Tryz.f33 cSameA (a, b, ()) = (List.length a ≤ 1000000 → (((↑(List.length a) : Int) != (↑(List.length b) : Int)) = true → false = decide (a = b)) ∧ (((↑(List.length a) : Int) != (↑(List.length b) : Int)) = false → ∃ (x : Nat), (0 = (↑x : Int) ∧ a = a ∧ b = b) ∧ (x ≤ List.length a ∧ List.length a = List.length b ∧ List.take x a = List.take x b) ∧ ∀ (x : Nat), x ≤ List.length a ∧ List.length a = List.length b ∧ List.take x a = List.take x b → (decide ((↑x : Int) < (↑(List.length a) : Int)) = true → ((0 ≤ (↑x : Int) ∧ (↑x : Int) < (↑(List.length a) : Int)) ∧ (0 ≤ (↑x : Int) ∧ (↑x : Int) < (↑(List.length a) : Int)) ∧ (0 ≤ (↑x : Int) ∧ (↑x : Int) < (↑(List.length b) : Int)) ∧ 0 ≤ (↑x : Int) ∧ (↑x : Int) < (↑(List.length b) : Int)) ∧ ((vc33_0 a b x) = true → false = decide (a = b)) ∧ ((vc33_0 a b x) = false → ((-9223372036854775808) ≤ (↑x : Int) + 1 ∧ (↑x : Int) + (1 : Int) ≤ 9223372036854775807) ∧ ∃ (y : Nat), ((↑x : Int) + 1 = (↑y : Int) ∧ a = a ∧ b = b) ∧ (y ≤ List.length a ∧ List.length a = List.length b ∧ List.take y a = List.take y b) ∧ List.length a - y < List.length a - x)) ∧ (decide ((↑x : Int) < (↑(List.length a) : Int)) = false → true = decide (a = b)))) := by
 intros
 kernel_rfl
theorem wp33 (a b : List Arr) : wpF Tryz.prog G308 (ann0 (annSame 130 sArr a b fun k => a.take k = b.take k)) Tryz.f33 cSameA (a, b, ()) := by
 refine (vc33 a b).mpr ?_
 delta vc33_0
 intro hb
 refine ⟨fun h => ?_, fun h => ?_⟩
 ·have hne : ¬ a.length = b.length := by intro e; rw [e] at h; simp at h
  have : ¬ a = b := by rintro rfl; exact hne rfl
  simp [this]
 ·have hlen : a.length = b.length := by
   have : (a.length : Int) = b.length := by simpa using h
   omega
  refine ⟨(0 : Nat), ⟨rfl, rfl, rfl⟩, ⟨Nat.zero_le _, hlen, rfl⟩, fun (k : Nat) hk => ⟨fun h => ?_, fun h => ?_⟩⟩
  ·have hlt : k < a.length := by simpa using h
   refine ⟨by omega, fun h1 => ?_, fun h1 => ⟨by omega, (k + 1 : Nat), ⟨by simp, rfl, rfl⟩, ⟨by omega, hlen, ?_⟩, by omega⟩⟩
   ·have : ¬ a = b := by rintro rfl; simp at h1
    simp [this]
   ·have he : a.getD k (0, ⟨⟨[]⟩⟩, 0) = b.getD k (0, ⟨⟨[]⟩⟩, 0) := by
     simp only [Bool.not_eq_false', Bool.and_eq_true, beq_iff_eq, Bool.and_true] at h1
     exact Prod.ext h1.1 (Prod.ext (ba_ext h1.2.1) h1.2.2)
    exact same_step hk.2.2 hlen hlt he
  ·have hlt : ¬ k < a.length := by simpa using h
   have hk' : k = a.length := by omega
   have h2 := hk.2.2
   rw [hk', List.take_length, hlen, List.take_length] at h2
   simp [h2]
theorem ok33 [Sx.Dr] : Ok Tryz.prog 33 cSameA := ok_of_wp mixed g308 (by kernel_rfl) (by kernel_rfl) (fun xx => ann0 (annSame 130 sArr xx.1 xx.2.1 fun k => xx.1.take k = xx.2.1.take k)) fun xx => wp33 xx.1 xx.2.1
abbrev G309 : Gam := (33, cSameA) :: G308
theorem g309 [Sx.Dr] : GamOk Tryz.prog G309 := .cons ok33 g308
theorem vc83 : ∀ (a b : List Int), wpF Tryz.prog G309 (ann0 (annSame (3 : TypeId) sI a b fun (k : Nat) => List.take k a = List.take k b)) Tryz.f83 cSameI (a, b, ()) = (List.length a ≤ 1000000 → (((↑(List.length a) : Int) != (↑(List.length b) : Int)) = true → false = decide (a = b)) ∧ (((↑(List.length a) : Int) != (↑(List.length b) : Int)) = false → ∃ (x : Nat), (0 = (↑x : Int) ∧ a = a ∧ b = b) ∧ (x ≤ List.length a ∧ List.length a = List.length b ∧ List.take x a = List.take x b) ∧ ∀ (x : Nat), x ≤ List.length a ∧ List.length a = List.length b ∧ List.take x a = List.take x b → (decide ((↑x : Int) < (↑(List.length a) : Int)) = true → ((0 ≤ (↑x : Int) ∧ (↑x : Int) < (↑(List.length a) : Int)) ∧ (0 ≤ (↑x : Int) ∧ (↑x : Int) < (↑(List.length a) : Int)) ∧ (0 ≤ (↑x : Int) ∧ (↑x : Int) < (↑(List.length b) : Int)) ∧ 0 ≤ (↑x : Int) ∧ (↑x : Int) < (↑(List.length b) : Int)) ∧ ((List.getD a x 0 != List.getD b x 0) = true → false = decide (a = b)) ∧ ((List.getD a x 0 != List.getD b x 0) = false → ((-9223372036854775808) ≤ (↑x : Int) + 1 ∧ (↑x : Int) + (1 : Int) ≤ 9223372036854775807) ∧ ∃ (y : Nat), ((↑x : Int) + 1 = (↑y : Int) ∧ a = a ∧ b = b) ∧ (y ≤ List.length a ∧ List.length a = List.length b ∧ List.take y a = List.take y b) ∧ List.length a - y < List.length a - x)) ∧ (decide ((↑x : Int) < (↑(List.length a) : Int)) = false → true = decide (a = b)))) := by
 intros
 kernel_rfl
theorem wp83 (a b : List Int) : wpF Tryz.prog G309 (ann0 (annSame 3 sI a b fun k => a.take k = b.take k)) Tryz.f83 cSameI (a, b, ()) := by
 refine (vc83 a b).mpr ?_
 intro hb
 refine ⟨fun h => ?_, fun h => ?_⟩
 ·have hne : ¬ a.length = b.length := by intro e; rw [e] at h; simp at h
  have : ¬ a = b := by rintro rfl; exact hne rfl
  simp [this]
 ·have hlen : a.length = b.length := by
   have : (a.length : Int) = b.length := by simpa using h
   omega
  refine ⟨(0 : Nat), ⟨rfl, rfl, rfl⟩, ⟨Nat.zero_le _, hlen, rfl⟩, fun (k : Nat) hk => ⟨fun h => ?_, fun h => ?_⟩⟩
  ·have hlt : k < a.length := by simpa using h
   refine ⟨by omega, fun h1 => ?_, fun h1 => ⟨by omega, (k + 1 : Nat), ⟨by simp, rfl, rfl⟩, ⟨by omega, hlen, ?_⟩, by omega⟩⟩
   ·have : ¬ a = b := by rintro rfl; simp at h1
    simp [this]
   ·have he : a.getD k 0 = b.getD k 0 := by
     simpa using h1
    exact same_step hk.2.2 hlen hlt he
  ·have hlt : ¬ k < a.length := by simpa using h
   have hk' : k = a.length := by omega
   have h2 := hk.2.2
   rw [hk', List.take_length, hlen, List.take_length] at h2
   simp [h2]
theorem ok83 [Sx.Dr] : Ok Tryz.prog 83 cSameI := ok_of_wp mixed g309 (by kernel_rfl) (by kernel_rfl) (fun xx => ann0 (annSame 3 sI xx.1 xx.2.1 fun k => xx.1.take k = xx.2.1.take k)) fun xx => wp83 xx.1 xx.2.1
abbrev G310 : Gam := (83, cSameI) :: G309
theorem g310 [Sx.Dr] : GamOk Tryz.prog G310 := .cons ok83 g309
def cSameC : Con := { args := [aCR, aCR], ress := [Bo], owns := [], pre := fun (a, b, _) => [a.1.length ≤ 1000000, a.2.1.length ≤ 1000000], spec := fun (a, b, _) => (decide (a = b), ()) }
abbrev annSC (a b : Cab) : Ann := { X := Nat, σ := fun k => ⟨6, [(2, .one (.ptr 4 0)), (3, .one (.ptr 5 0)), (5, .one (.int .i64 k))], [(0, .imm 102 sPt a.1), (1, .imm 3 sI a.2.1), (2, .imm 102 sPt b.1), (3, .imm 3 sI b.2.1), (4, .box 26 [.sl 0, .sl 1, .int .i64 a.2.2.1, .int .i64 a.2.2.2]), (5, .box 26 [.sl 2, .sl 3, .int .i64 b.2.2.1, .int .i64 b.2.2.2])]⟩, inv := fun k => k ≤ a.1.length ∧ a.1.length = b.1.length ∧ a.2 = b.2 ∧ a.1.take k = b.1.take k, mu := fun k => a.1.length - k }
def vc75_0 (a b : Cab) := (bif bif !(a.2.2.1 == b.2.2.1 && (a.2.2.2 == b.2.2.2 && true)) then true else !decide (a.2.1 = b.2.1) then true else (↑(List.length a.1) : Int) != (↑(List.length b.1) : Int))
def vc75_1 (a b : Cab) (x : Nat) := (!((List.getD a.1 x ((0 : Int), (0 : Int))).1 == (List.getD b.1 x ((0 : Int), (0 : Int))).1 && ((List.getD a.1 x ((0 : Int), (0 : Int))).2 == (List.getD b.1 x ((0 : Int), (0 : Int))).2 && true)))
theorem vc75 : ∀ (a b : Cab), wpF Tryz.prog G310 (ann0 (annSC a b)) Tryz.f75 cSameC (a, b, ()) = (List.length a.1 ≤ 1000000 → List.length a.2.1 ≤ 1000000 → ((!(a.2.2.1 == b.2.2.1 && (a.2.2.2 == b.2.2.2 && true))) = false → List.length a.2.1 ≤ 1000000) ∧ ((vc75_0 a b) = true → false = decide (a = b)) ∧ ((vc75_0 a b) = false → ∃ (x : Nat), (0 = (↑x : Int) ∧ a.1 = a.1 ∧ a.2.1 = a.2.1 ∧ b.1 = b.1 ∧ b.2.1 = b.2.1 ∧ a.2.2.1 = a.2.2.1 ∧ a.2.2.2 = a.2.2.2 ∧ b.2.2.1 = b.2.2.1 ∧ b.2.2.2 = b.2.2.2) ∧ (x ≤ List.length a.1 ∧ List.length a.1 = List.length b.1 ∧ a.2 = b.2 ∧ List.take x a.1 = List.take x b.1) ∧ ∀ (x : Nat), x ≤ List.length a.1 ∧ List.length a.1 = List.length b.1 ∧ a.2 = b.2 ∧ List.take x a.1 = List.take x b.1 → (decide ((↑x : Int) < (↑(List.length a.1) : Int)) = true → ((0 ≤ (↑x : Int) ∧ (↑x : Int) < (↑(List.length a.1) : Int)) ∧ (0 ≤ (↑x : Int) ∧ (↑x : Int) < (↑(List.length a.1) : Int)) ∧ (0 ≤ (↑x : Int) ∧ (↑x : Int) < (↑(List.length b.1) : Int)) ∧ 0 ≤ (↑x : Int) ∧ (↑x : Int) < (↑(List.length b.1) : Int)) ∧ ((vc75_1 a b x) = true → false = decide (a = b)) ∧ ((vc75_1 a b x) = false → ((-9223372036854775808) ≤ (↑x : Int) + 1 ∧ (↑x : Int) + (1 : Int) ≤ 9223372036854775807) ∧ ∃ (y : Nat), ((↑x : Int) + 1 = (↑y : Int) ∧ a.1 = a.1 ∧ a.2.1 = a.2.1 ∧ b.1 = b.1 ∧ b.2.1 = b.2.1 ∧ a.2.2.1 = a.2.2.1 ∧ a.2.2.2 = a.2.2.2 ∧ b.2.2.1 = b.2.2.1 ∧ b.2.2.2 = b.2.2.2) ∧ (y ≤ List.length a.1 ∧ List.length a.1 = List.length b.1 ∧ a.2 = b.2 ∧ List.take y a.1 = List.take y b.1) ∧ List.length a.1 - y < List.length a.1 - x)) ∧ (decide ((↑x : Int) < (↑(List.length a.1) : Int)) = false → true = decide (a = b)))) := by
 intros
 kernel_rfl
theorem wp75 (a b : Cab) : wpF Tryz.prog G310 (ann0 (annSC a b)) Tryz.f75 cSameC (a, b, ()) := by
 refine (vc75 a b).mpr ?_
 delta vc75_0 vc75_1
 intro h1 h2
 have key : (bif bif !(a.2.2.1 == b.2.2.1 && (a.2.2.2 == b.2.2.2 && true)) then true else !decide (a.2.1 = b.2.1) then true else ((a.1.length : Int) != b.1.length)) = !decide (a.2 = b.2 ∧ a.1.length = b.1.length) := by
  by_cases e1 : a.2.2.1 = b.2.2.1
  ·by_cases e2 : a.2.2.2 = b.2.2.2
   ·by_cases e3 : a.2.1 = b.2.1
    ·have e : a.2 = b.2 := Prod.ext e3 (Prod.ext e1 e2)
     by_cases e4 : a.1.length = b.1.length
     ·simp [e, e4]
     ·have : ((a.1.length : Int) != b.1.length) = true := by rw [bne_iff_ne]; omega
      simp [e, e4]
      omega
    ·have e : ¬ a.2 = b.2 := fun q => e3 (by rw [q])
     simp [e, e1, e2, e3]
   ·have e : ¬ a.2 = b.2 := fun q => e2 (by rw [q])
    simp [e, e2]
  ·have e : ¬ a.2 = b.2 := fun q => e1 (by rw [q])
   simp [e, e1]
 rw [key]
 refine ⟨fun _ => h2, fun h => ?_, fun h => ?_⟩
 ·have h : ¬ (a.2 = b.2 ∧ a.1.length = b.1.length) := of_decide_eq_false (by simpa only [Bool.not_eq_true'] using h)
  have : ¬ a = b := by rintro rfl; exact h ⟨rfl, rfl⟩
  simp [this]
 ·have h : a.2 = b.2 ∧ a.1.length = b.1.length := by simpa using h
  refine ⟨(0 : Nat), ⟨rfl, rfl, rfl, rfl, rfl, rfl, rfl, rfl, rfl⟩, ⟨Nat.zero_le _, h.2, h.1, rfl⟩, fun (k : Nat) hk => ⟨fun q => ?_, fun q => ?_⟩⟩
  ·have hlt : k < a.1.length := by simpa using q
   refine ⟨⟨by omega, by omega, by omega, by omega⟩, fun q1 => ?_, fun q1 => ⟨by omega, (k + 1 : Nat), ⟨by simp, rfl, rfl, rfl, rfl, rfl, rfl, rfl, rfl⟩, ⟨by omega, h.2, h.1, ?_⟩, by omega⟩⟩
   ·have : ¬ a = b := by rintro rfl; simp at q1
    simp [this]
   ·have he : a.1.getD k (0, 0) = b.1.getD k (0, 0) := by
     simp only [Bool.not_eq_false', Bool.and_eq_true, beq_iff_eq, Bool.and_true] at q1
     exact Prod.ext q1.1 q1.2
    exact same_step hk.2.2.2 h.2 hlt he
  ·have hge : ¬ k < a.1.length := by simpa using q
   have hk' : k = a.1.length := by omega
   have q2 := hk.2.2.2
   rw [hk', List.take_length, h.2, List.take_length] at q2
   have : a = b := Prod.ext q2 h.1
   simp [this]
theorem ok75 [Sx.Dr] : Ok Tryz.prog 75 cSameC := ok_of_wp mixed g310 (by kernel_rfl) (by kernel_rfl) (fun xx => ann0 (annSC xx.1 xx.2.1)) fun xx => wp75 xx.1 xx.2.1
abbrev G311 : Gam := (75, cSameC) :: G310
theorem g311 [Sx.Dr] : GamOk Tryz.prog G311 := .cons ok75 g310
def feq (x y : Nat) : Bool := FloatKind.f32.format.order x y == some .eq
def sameF : List Nat → List Nat → Bool
 | [], [] => true
 | x :: a, y :: b => feq x y && sameF a b
 | _, _ => false
abbrev sFl : Sch := .flt .f32
theorem sameF_len : ∀ {a b : List Nat}, sameF a b = true → a.length = b.length
 | [], [], _ => rfl
 | [], _ :: _, h => by cases h
 | _ :: _, [], h => by cases h
 | x :: a, y :: b, h => by
  simp only [sameF, Bool.and_eq_true] at h
  simp only [List.length_cons, sameF_len h.2]
def sameJ (a b : List Nat) (k : Nat) : Prop := sameF a b = sameF (a.drop k) (b.drop k)
def cSameF : Con := { args := [.val false (.list 164 sFl), .val false (.list 164 sFl)], ress := [Bo], owns := [], pre := fun (a, b, _) => [a.length ≤ 1000000], spec := fun (a, b, _) => (sameF a b, ()) }
theorem vc35 : ∀ (a b : List Nat), wpF Tryz.prog G311 (ann0 (annSame (164 : TypeId) sFl a b (sameJ a b))) Tryz.f35 cSameF (a, b, ()) = (List.length a ≤ 1000000 → (((↑(List.length a) : Int) != (↑(List.length b) : Int)) = true → false = sameF a b) ∧ (((↑(List.length a) : Int) != (↑(List.length b) : Int)) = false → ∃ (x : Nat), (0 = (↑x : Int) ∧ a = a ∧ b = b) ∧ (x ≤ List.length a ∧ List.length a = List.length b ∧ sameJ a b x) ∧ ∀ (x : Nat), x ≤ List.length a ∧ List.length a = List.length b ∧ sameJ a b x → (decide ((↑x : Int) < (↑(List.length a) : Int)) = true → ((0 ≤ (↑x : Int) ∧ (↑x : Int) < (↑(List.length a) : Int)) ∧ (0 ≤ (↑x : Int) ∧ (↑x : Int) < (↑(List.length a) : Int)) ∧ (0 ≤ (↑x : Int) ∧ (↑x : Int) < (↑(List.length b) : Int)) ∧ 0 ≤ (↑x : Int) ∧ (↑x : Int) < (↑(List.length b) : Int)) ∧ ((Ieee.Format.order (Ieee.Format.mk 8 23) (List.getD a x 0) (List.getD b x 0) != some Ordering.eq) = true → false = sameF a b) ∧ ((Ieee.Format.order (Ieee.Format.mk 8 23) (List.getD a x 0) (List.getD b x 0) != some Ordering.eq) = false → ((-9223372036854775808) ≤ (↑x : Int) + 1 ∧ (↑x : Int) + (1 : Int) ≤ 9223372036854775807) ∧ ∃ (y : Nat), ((↑x : Int) + 1 = (↑y : Int) ∧ a = a ∧ b = b) ∧ (y ≤ List.length a ∧ List.length a = List.length b ∧ sameJ a b y) ∧ List.length a - y < List.length a - x)) ∧ (decide ((↑x : Int) < (↑(List.length a) : Int)) = false → true = sameF a b))) := by
 intros
 kernel_rfl
theorem wp35 (a b : List Nat) : wpF Tryz.prog G311 (ann0 (annSame 164 sFl a b (sameJ a b))) Tryz.f35 cSameF (a, b, ()) := by
 refine (vc35 a b).mpr ?_
 intro hb
 refine ⟨fun h => ?_, fun h => ?_⟩
 ·cases e : sameF a b with
  | false => rfl
  | true => have := sameF_len e; rw [this] at h; simp at h
 ·have hlen : a.length = b.length := by
   have : (a.length : Int) = b.length := by simpa using h
   omega
  refine ⟨(0 : Nat), ⟨rfl, rfl, rfl⟩, ⟨Nat.zero_le _, hlen, rfl⟩, fun (k : Nat) hk => ⟨fun h => ?_, fun h => ?_⟩⟩
  ·have hlt : k < a.length := by simpa using h
   have hj : sameF a b = (feq (a.getD k 0) (b.getD k 0) && sameF (a.drop (k + 1)) (b.drop (k + 1))) := by
    have := hk.2.2
    unfold sameJ at this
    rw [this, drop_cons (d := 0) hlt, drop_cons (l := b) (k := k) (d := 0) (by omega)]
    rfl
   refine ⟨⟨by omega, by omega, by omega, by omega⟩, fun h1 => ?_, fun h1 => ⟨by omega, (k + 1 : Nat), ⟨by simp, rfl, rfl⟩, ⟨by omega, hlen, ?_⟩, by omega⟩⟩
   ·have h1 : feq (a.getD k 0) (b.getD k 0) = false := by
     unfold feq
     have h1 := bne_iff_ne.1 h1
     rw [beq_eq_false_iff_ne]; exact h1
    rw [hj, h1]; rfl
   ·have h1 : feq (a.getD k 0) (b.getD k 0) = true := by
     unfold feq
     have h1 := bne_eq_false_iff_eq.1 h1
     rw [beq_iff_eq]; exact h1
    unfold sameJ
    rw [hj, h1]; rfl
  ·have hlt : ¬ k < a.length := by simpa using h
   have h2 := hk.2.2
   unfold sameJ at h2
   rw [h2, List.drop_of_length_le (by omega), List.drop_of_length_le (by omega)]
   rfl
theorem ok35 [Sx.Dr] : Ok Tryz.prog 35 cSameF := ok_of_wp mixed g311 (by kernel_rfl) (by kernel_rfl) (fun xx => ann0 (annSame 164 sFl xx.1 xx.2.1 (sameJ xx.1 xx.2.1))) fun xx => wp35 xx.1 xx.2.1
abbrev G312 : Gam := (35, cSameF) :: G311
theorem g312 [Sx.Dr] : GamOk Tryz.prog G312 := .cons ok35 g311
abbrev G313 : Gam := G312
theorem g313 [Sx.Dr] : GamOk Tryz.prog G313 := g312
def largeS (n : Int) : Bool := decide (16384 < n) || decide (n < -16384)
abbrev G314 : Gam := G313
theorem g314 [Sx.Dr] : GamOk Tryz.prog G314 := g313
open Ieee in
theorem read_word (neg : Bool) {rung : Nat} (h : rung ≤ single.infRung) : ∀ s t, single.read (single.word neg rung) ≠ .nan s t := by
 have e1 : single.infRung = 2139095040 := by decide
 have e2 : single.signWeight = 2147483648 := by decide
 have e3 : single.binade = 8388608 := by decide
 have e4 : single.word neg rung % single.signWeight = rung := by
  unfold Format.word
  rw [e2]
  rw [e1] at h
  cases neg
  ·rw [if_neg (by decide)]; omega
  ·rw [if_pos rfl]; omega
 intro s t
 unfold Format.read
 simp only [e4]
 rw [e1, e3]
 rw [e1] at h
 by_cases h1 : rung < 8388608
 ·rw [if_pos h1]; exact fun q => by cases q
 ·rw [if_neg h1]
  by_cases h2 : rung < 2139095040
  ·rw [if_pos h2]; exact fun q => by cases q
  ·rw [if_neg h2, if_pos (by omega)]; exact fun q => by cases q
open Ieee in
theorem read_near (neg : Bool) (mag : Nat) (place : Int) : ∀ s t, single.read (single.nearest neg mag place) ≠ .nan s t := by
 unfold Format.nearest
 split
 ·exact read_word neg (Nat.zero_le _)
 ·exact read_word neg (Nat.min_le_right _ _)
open Ieee in
theorem order_self {d : Datum} (h : ∀ s t, d ≠ .nan s t) : d.order d = some .eq := by
 cases d with
 | nan s t => exact absurd rfl (h s t)
 | infinity s => simp [Datum.order]
 | number s m i => simp [Datum.order]
open Ieee in
theorem quot_some {d : Datum} (h : ∀ s t, d ≠ .nan s t) (n : Nat) (s : Bool) (m : Nat) (i : Int) (hm : m ≠ 0) : ∃ e, d.quotient n (.number s m i) = some e ∧ ∀ s t, e ≠ .nan s t := by
 cases d with
 | nan s t => exact absurd rfl (h s t)
 | infinity s => exact ⟨_, rfl, fun _ _ q => by cases q⟩
 | number s m i =>
  simp only [Datum.quotient]
  rw [if_neg hm]
  exact ⟨_, rfl, fun _ _ q => by cases q⟩
def smpS (n : Int) : Nat := (FloatKind.f32.format.div (FloatKind.f32.nearest n) 1098907648).getD 0
open Ieee in
theorem smp_some (n : Int) : (FloatKind.f32.format.div (FloatKind.f32.nearest n) 1098907648).isSome = true ∧ feq (smpS n) (smpS n) = true := by
 have e16 : single.read 1098907648 = .number false 8388608 (-19) := by kernel_rfl
 have h := read_near (decide (n < 0)) n.natAbs 0
 obtain ⟨e, he, hn⟩ := quot_some h 25 false 8388608 (-19) (by decide)
 have hd : FloatKind.f32.format.div (FloatKind.f32.nearest n) 1098907648 = some (single.write e) := by
  show ((single.read (single.nearest (decide (n < 0)) n.natAbs 0)).quotient (single.fractionBits + 2) (single.read 1098907648)).map single.write = _
  rw [e16]
  have : single.fractionBits + 2 = 25 := rfl
  rw [this, he]; rfl
 refine ⟨by rw [hd]; rfl, ?_⟩
 have hs : smpS n = single.write e := by unfold smpS; rw [hd]; rfl
 unfold feq
 rw [beq_iff_eq, hs]
 refine order_self ?_
 cases e with
 | nan s t => exact absurd rfl (hn s t)
 | infinity s => exact read_word s (Nat.le_refl _)
 | number s m i => exact read_near s m i
abbrev G315 : Gam := G314
theorem g315 [Sx.Dr] : GamOk Tryz.prog G315 := g314
def lineC : Cab := ([(1000, 4), (3000, 6)], [2], 4, 0)
def faultC : Flt := (0, 1, 100, 16)
def cLineC : Con := { args := [], ress := [(true, sCab 166)], owns := [], pre := fun _ => [], spec := fun _ => (lineC, ()) }
theorem vc81 : wpF Tryz.prog G315 (na ()) Tryz.f81 cLineC () = (([(1000, 4), (3000, 6)], [2], 4, 0) = lineC) := by
 intros
 kernel_rfl
theorem wp81  : wpF Tryz.prog G315 (na ()) Tryz.f81 cLineC () := by
 refine vc81.mpr ?_
 rfl
theorem ok81 [Sx.Dr] : Ok Tryz.prog 81 cLineC := ok_of_wp mixed g315 (by kernel_rfl) (by kernel_rfl) na fun xx => wp81 
abbrev G316 : Gam := (81, cLineC) :: G315
theorem g316 [Sx.Dr] : GamOk Tryz.prog G316 := .cons ok81 g315
def cFaultC : Con := { args := [], ress := [(true, sFlt)], owns := [], pre := fun _ => [], spec := fun _ => (faultC, ()) }
theorem vc82 : wpF Tryz.prog G316 (na ()) Tryz.f82 cFaultC () = ((0, 1, 100, 16) = faultC) := by
 intros
 kernel_rfl
theorem wp82  : wpF Tryz.prog G316 (na ()) Tryz.f82 cFaultC () := by
 refine vc82.mpr ?_
 rfl
theorem ok82 [Sx.Dr] : Ok Tryz.prog 82 cFaultC := ok_of_wp mixed g316 (by kernel_rfl) (by kernel_rfl) na fun xx => wp82 
set_option maxHeartbeats 20000000
abbrev Key : Type := Int × ByteArray
def hitK (n : Int) (k : Key) (w : Stp) : Prop := (w.2.1 = 0 ∨ w.2.1 = n) ∧ w.1 = k.1 ∧ endW w = k.2
instance (n : Int) (k : Key) (w : Stp) : Decidable (hitK n k w) := inferInstanceAs (Decidable ((w.2.1 = 0 ∨ w.2.1 = n) ∧ w.1 = k.1 ∧ endW w = k.2))
def sumK (n : Int) (k : Key) : List Stp → Int
 | [] => 0
 | w :: r => (if hitK n k w then w.2.2.2.2 else 0) + sumK n k r
def hasK (n : Int) (k : Key) (l : List Stp) : Prop := ∃ w ∈ l, hitK n k w
theorem sumK_append (n : Int) (k : Key) (l r : List Stp) : sumK n k (l ++ r) = sumK n k l + sumK n k r := by
 induction l with
 | nil => simp [sumK]
 | cons w l ih => simp only [List.cons_append, sumK, ih]; omega
theorem sumK_one (n : Int) (k : Key) (w : Stp) : sumK n k [w] = if hitK n k w then w.2.2.2.2 else 0 := by simp [sumK]
theorem sumK_none {n : Int} {k : Key} : ∀ {l : List Stp}, ¬ hasK n k l → sumK n k l = 0
 | [], _ => rfl
 | w :: r, h => by
  simp only [sumK]
  rw [if_neg fun q => h ⟨w, by simp, q⟩, sumK_none fun ⟨x, hx, hk⟩ => h ⟨x, by simp [hx], hk⟩]; rfl
theorem hasK_snoc {n : Int} {k : Key} {l : List Stp} {w : Stp} : hasK n k (l ++ [w]) ↔ hasK n k l ∨ hitK n k w := by
 constructor
 ·rintro ⟨x, hx, hk⟩
  rcases List.mem_append.1 hx with hx | hx
  ·exact .inl ⟨x, hx, hk⟩
  ·rw [List.mem_singleton.1 hx] at hk; exact .inr hk
 ·rintro (⟨x, hx, hk⟩ | hk)
  ·exact ⟨x, by simp [hx], hk⟩
  ·exact ⟨w, by simp, hk⟩
theorem snoc_ind {α : Type} {Q : List α → Prop} (h0 : Q []) (h1 : ∀ l x, Q l → Q (l ++ [x])) (l : List α) : Q l := by
 have : ∀ r : List α, Q r.reverse := fun r => by
  induction r with
  | nil => exact h0
  | cons x r ih => rw [List.reverse_cons]; exact h1 _ _ ih
 simpa using this l.reverse
theorem mp_get_ne {k k' : Arr} (hk : k ≠ k') (u : Int) : ∀ m : AM, mpGet sArr k' (mpSet sArr k u m) = mpGet sArr k' m
 | [] => by
  simp only [mpSet, mpGet]
  rw [if_neg fun h => hk (keyA_eq.1 h).symm]
 | x :: r => by
  simp only [mpSet]
  split
  ·rename_i h
   have e := keyA_eq.1 h
   simp only [mpGet]
   rw [if_neg fun h => hk (keyA_eq.1 h).symm, if_neg fun h => hk (by rw [e]; exact (keyA_eq.1 h).symm)]
  ·rename_i h
   simp only [mpGet]
   rw [mp_get_ne hk u r]
theorem sumsM_get (c : Cab) (l : List Stp) : ∀ (k : Arr) (v : Int), k.2.2 = 0 → (mpGet sArr k (sumsM c l) = some v ↔ hasK c.1.length (k.1, k.2.1) l ∧ v = sumK c.1.length (k.1, k.2.1) l) := by
 refine snoc_ind (Q := fun l => ∀ (k : Arr) (v : Int), k.2.2 = 0 → (mpGet sArr k (sumsM c l) = some v ↔ hasK c.1.length (k.1, k.2.1) l ∧ v = sumK c.1.length (k.1, k.2.1) l)) ?_ ?_ l
 ·intro k v _
  exact ⟨fun h => by simp [sumsM, mpGet] at h, fun ⟨⟨w, hw, _⟩, _⟩ => by simp at hw⟩
 ·intro l w ih k v hk
  rw [sumsM_snoc, hasK_snoc, sumK_append, sumK_one]
  have key : ∀ e : ByteArray, endW w = e → (w.2.1 = 0 ∨ w.2.1 = c.1.length) → hitM c (sumsM c l) w = addM (sumsM c l) (w.1, e, 0) w.2.2.2.2 → (mpGet sArr k (hitM c (sumsM c l) w) = some v ↔ (hasK c.1.length (k.1, k.2.1) l ∨ hitK c.1.length (k.1, k.2.1) w) ∧ v = sumK c.1.length (k.1, k.2.1) l + if hitK c.1.length (k.1, k.2.1) w then w.2.2.2.2 else 0) := by
   intro e he hh hm
   rw [hm]
   unfold addM
   by_cases hq : hitK c.1.length (k.1, k.2.1) w
   ·have ek : (w.1, e, 0) = k := by
     obtain ⟨_, h1, h2⟩ := hq
     exact Prod.ext h1 (Prod.ext (he.symm.trans h2) hk.symm)
    rw [ek, mp_get_set, if_pos hq]
    cases hg : mpGet sArr k (sumsM c l) with
    | none =>
     have : ¬ hasK c.1.length (k.1, k.2.1) l := fun q => by
      have := (ih k _ hk).2 ⟨q, rfl⟩
      rw [hg] at this; cases this
     rw [sumK_none this]
     simp only [Option.getD_none, Option.some.injEq]
     exact ⟨fun h => ⟨.inr hq, h.symm⟩, fun h => h.2.symm⟩
    | some u =>
     have := (ih k u hk).1 hg
     rw [← this.2]
     simp only [Option.getD_some, Option.some.injEq]
     exact ⟨fun h => ⟨.inr hq, h.symm⟩, fun h => h.2.symm⟩
   ·rw [mp_get_ne (fun q => hq ⟨hh, by rw [← q], by rw [← q]; exact he⟩), if_neg hq, ih k v hk, Int.add_zero]
    exact ⟨fun h => ⟨.inl h.1, h.2⟩, fun h => ⟨h.1.resolve_right hq, h.2⟩⟩
  by_cases h0 : w.2.1 = 0
  ·exact key sA (by unfold endW; rw [if_pos h0]) (.inl h0) (by unfold hitM; rw [if_pos h0])
  ·by_cases h1 : w.2.1 = c.1.length
   ·exact key sB (by unfold endW; rw [if_neg h0]) (.inr h1) (by unfold hitM; rw [if_neg h0, if_pos h1])
   ·have hq : ¬ hitK c.1.length (k.1, k.2.1) w := fun q => q.1.elim h0 h1
    rw [if_neg hq, Int.add_zero]
    unfold hitM
    rw [if_neg h0, if_neg h1, ih k v hk]
    exact ⟨fun h => ⟨.inl h.1, h.2⟩, fun h => ⟨h.1.resolve_right hq, h.2⟩⟩
theorem mp_mem_get {k : Arr} {v : Int} : ∀ {m : AM}, (m.Pairwise fun a b => a.1 ≠ b.1) → (k, v) ∈ m → mpGet sArr k m = some v
 | [], _, h => by simp at h
 | x :: r, hp, h => by
  replace hp := List.pairwise_cons.1 hp
  simp only [mpGet]
  rcases List.mem_cons.1 h with h | h
  ·subst h; rw [if_pos (keyA_refl _)]
  ·rw [if_neg fun q => hp.1 _ h (keyA_eq.1 q).symm]
   exact mp_mem_get hp.2 h
theorem sumsM_mem {c : Cab} {l : List Stp} (h : ∀ w ∈ l, wvH c w) (a : Arr) : a ∈ (sumsM c l).map rowA ↔ hasK c.1.length (a.1, a.2.1) l ∧ a.2.2 = sumK c.1.length (a.1, a.2.1) l := by
 have ho := sumsM_ok h
 rw [← sumsM_get c l (a.1, a.2.1, 0) a.2.2 rfl]
 constructor
 ·intro hm
  obtain ⟨p, hp, rfl⟩ := List.mem_map.1 hm
  have h0 := ho.2.2.2 p hp
  have : (rowA p).1 = p.1.1 ∧ (rowA p).2.1 = p.1.2.1 ∧ (rowA p).2.2 = p.2 := ⟨rfl, rfl, rfl⟩
  rw [this.1, this.2.1, this.2.2]
  have e : (p.1.1, p.1.2.1, (0 : Int)) = p.1 := Prod.ext rfl (Prod.ext rfl h0.symm)
  rw [e]
  exact mp_mem_get ho.2.2.1 hp
 ·intro hg
  exact List.mem_map.2 ⟨_, mp_get_mem hg, rfl⟩
theorem arrS_mem {c : Cab} {f : Flt} {win : Int} (h : fltV c f) (a : Arr) : a ∈ arrS c f win ↔ hasK c.1.length (a.1, a.2.1) (wavesS c f win) ∧ a.2.2 = sumK c.1.length (a.1, a.2.1) (wavesS c f win) := by
 rw [← sumsM_mem fun w hw => ((waves_H h).1 w hw).1]
 exact (sortA_perm _).mem_iff
theorem arrS_bd {c : Cab} {f : Flt} {win : Int} (h : fltV c f) : arrB (arrS c f win) ∧ (arrS c f win).length ≤ 4374 := by
 have hH : ∀ w ∈ wavesS c f win, wvH c w := fun w hw => ((waves_H h).1 w hw).1
 have hL := (waves_H (win := win) h).2
 have ho := sumsM_ok hH
 refine ⟨fun a ha => ?_, ?_⟩
 ·obtain ⟨p, hp, rfl⟩ := List.mem_map.1 ((sortA_perm _).mem_iff.1 ha)
  have := ho.2.1 p hp
  show -80000000000000 ≤ p.2 ∧ p.2 ≤ 80000000000000
  omega
 ·unfold arrS
  rw [(sortA_perm _).length_eq, List.length_map]
  have := ho.1; omega
set_option maxHeartbeats 20000000
def tree (c : Cab) (last : Int) : Nat → Stp → List Stp
 | 0, _ => []
 | n + 1, w => if last < w.1 then [] else w :: (childS c w).flatMap (tree c last n)
theorem child_hop {c : Cab} {w x : Stp} (h : x ∈ childS c w) : x.2.2.2.1 = w.2.2.2.1 + 1 ∧ w.2.2.2.1 ≠ 6 := by
 unfold childS at h
 split at h
 ·simp at h
 ·rename_i h6
  refine ⟨?_, h6⟩
  split at h
  ·exact sent_hop h
  ·split at h
   ·exact sent_hop h
   ·rcases List.mem_append.1 h with h | h
    ·exact sent_hop h
    ·exact sent_hop h
theorem flatMap_congr' {α β : Type} {l : List α} {f g : α → List β} (h : ∀ x ∈ l, f x = g x) : l.flatMap f = l.flatMap g := by
 induction l with
 | nil => rfl
 | cons x l ih => rw [List.flatMap_cons, List.flatMap_cons, h x (by simp), ih fun y hy => h y (by simp [hy])]
theorem tree_fuel {c : Cab} {last : Int} : ∀ {n m : Nat} {w : Stp}, (0 ≤ w.2.2.2.1 ∧ w.2.2.2.1 ≤ 6) → (7 : Int) ≤ n + w.2.2.2.1 → (7 : Int) ≤ m + w.2.2.2.1 → tree c last n w = tree c last m w
 | 0, _, _, h, h1, _ => by omega
 | _ + 1, 0, _, h, _, h2 => by omega
 | n + 1, m + 1, w, h, h1, h2 => by
  simp only [tree]
  split
  ·rfl
  ·refine congrArg _ (flatMap_congr' fun x hx => ?_)
   have := child_hop hx
   exact tree_fuel (by omega) (by omega) (by omega)
theorem bfs_perm {c : Cab} {last : Int} (hv : cabV c) : ∀ {n : Nat} {l : List Stp}, (∀ w ∈ l, wvH c w) → wtL l ≤ n → (bfs c last n l).Perm (l.flatMap (tree c last 7))
 | 0, [], _, _ => by simp [bfs]
 | 0, w :: r, _, h => by have := wt_pos w; simp only [wtL] at h; omega
 | n + 1, [], _, _ => by simp [bfs]
 | n + 1, w :: r, hl, h1 => by
  have hp := wt_pos w
  have hw := hl w (by simp)
  have hc := child_wt (c := c) hw.1
  simp only [wtL] at h1
  simp only [bfs, List.flatMap_cons]
  have e : tree c last 7 w = if last < w.1 then [] else w :: (childS c w).flatMap (tree c last 6) := rfl
  rw [e]
  split
  ·exact bfs_perm hv (fun x hx => hl x (by simp [hx])) (by omega)
  ·have ih := bfs_perm (last := last) hv (l := r ++ childS c w) (n := n) (fun x hx => app_H hv hl x hx) (by rw [wtL_append]; omega)
   rw [List.flatMap_append] at ih
   have e2 : (childS c w).flatMap (tree c last 7) = (childS c w).flatMap (tree c last 6) := flatMap_congr' fun x hx => by
    have h3 := child_hop hx
    have h4 := (child_H hv hw hx).1
    have := hw.1
    exact tree_fuel h4 (by omega) (by omega)
   rw [e2] at ih
   exact (ih.trans List.perm_append_comm).cons w
theorem waves_perm {c : Cab} {f : Flt} {win : Int} (h : fltV c f) : (wavesS c f win).Perm ((initS c f).flatMap (tree c (f.2.2.1 + win) 7)) := bfs_perm h.1 (initS_H h) (Nat.le_refl _)
theorem tree_len {c : Cab} {last : Int} : ∀ (n : Nat) (w : Stp), (tree c last n w).length + 1 ≤ 2 ^ n
 | 0, _ => by simp [tree]
 | n + 1, w => by
  simp only [tree]
  have hp : 0 < 2 ^ n := Nat.pow_pos (by omega)
  rw [Nat.pow_succ]
  split
  ·simp; omega
  ·have key : ∀ l : List Stp, (l.flatMap (tree c last n)).length + l.length ≤ l.length * 2 ^ n := by
    intro l
    induction l with
    | nil => simp
    | cons x l ih =>
     have := tree_len (c := c) (last := last) n x
     rw [List.flatMap_cons, List.length_append, List.length_cons, Nat.add_mul, Nat.one_mul]; omega
   have h1 := key (childS c w)
   have h2 := child_len c w
   have h3 : (childS c w).length * 2 ^ n ≤ (childS c w).length * 2 ^ n + (2 - (childS c w).length) * (2 ^ n - 1) := Nat.le_add_right _ _
   simp only [List.length_cons]
   have : (childS c w).length = 0 ∨ (childS c w).length = 1 ∨ (childS c w).length = 2 := by omega
   rcases this with e | e | e <;> rw [e] at h1 <;> omega
theorem waves_len {c : Cab} {f : Flt} {win : Int} (h : fltV c f) : (wavesS c f win).length ≤ 254 := by
 rw [(waves_perm h).length_eq]
 simp only [initS, List.flatMap_cons, List.flatMap_nil, List.append_nil, List.length_append]
 have h1 := tree_len (c := c) (last := f.2.2.1 + win) 7 (f.2.2.1 + f.2.1, f.1, false, 0, f.2.2.2 * 262144)
 have h2 := tree_len (c := c) (last := f.2.2.1 + win) 7 (f.2.2.1 + ((c.1.getD f.1.toNat (0, 0)).2 - f.2.1), f.1 + 1, true, 0, f.2.2.2 * 262144)
 omega
set_option maxHeartbeats 20000000
set_option maxHeartbeats 20000000
def turnF (c : Cab) (f : Flt) : Flt := (c.1.length - 1 - f.1, (c.1.getD f.1.toNat (0, 0)).2 - f.2.1, f.2.2.1, f.2.2.2)
theorem arr_tick {c : Cab} {f : Flt} {win : Int} (h : fltV c f) {a : Arr} (ha : a ∈ arrS c f win) : (0 ≤ a.1 ∧ a.1 ≤ 100448) ∧ a.1 ≤ f.2.2.1 + win ∧ -4363686772736 ≤ a.2.2 ∧ a.2.2 ≤ 4363686772736 := by
 obtain ⟨⟨x, hx, hk⟩, hs⟩ := (arrS_mem h a).1 ha
 have hH := (waves_H h).1 x hx
 have e : x.1 = a.1 := hk.2.1
 have b3 := hH.1.2.2.1
 have b0 := hH.1.1
 have hb : ∀ l : List Stp, (∀ w ∈ l, wvH c w) → -(17179869184 * (l.length : Int)) ≤ sumK c.1.length (a.1, a.2.1) l ∧ sumK c.1.length (a.1, a.2.1) l ≤ 17179869184 * l.length := by
  intro l
  induction l with
  | nil => intro _; simp [sumK]
  | cons w r ih =>
   intro hl
   have h1 := ih fun x hx => hl x (by simp [hx])
   have h2 := wvH_ht (hl w (by simp))
   simp only [sumK, List.length_cons]
   split <;> omega
 have hl := waves_len (win := win) h
 have := hb (wavesS c f win) fun w hw => ((waves_H h).1 w hw).1
 rw [← hs] at this
 omega
set_option maxHeartbeats 20000000
set_option maxHeartbeats 20000000
theorem firstS_all : ∀ {l : List Int}, (∀ x ∈ l, x = 0) → firstS l = 0
 | [], _ => rfl
 | x :: l, h => by
  rw [firstS_cons, if_pos (h x (by simp))]
  exact firstS_all fun y hy => h y (by simp [hy])
theorem cabV_S {c : Cab} (h : cabV c) : cabS c = 0 := by
 obtain ⟨v1, v2, v3, v4, v5, v6, v7⟩ := h
 unfold cabS
 rw [if_neg (by omega), if_neg (by omega), if_neg (by omega)]
 refine firstS_all fun x hx => ?_
 simp only [List.mem_cons, List.not_mem_nil, or_false] at hx
 rcases hx with rfl | rfl | rfl | rfl
 ·refine firstS_all fun y hy => ?_
  obtain ⟨s, hs, rfl⟩ := List.mem_map.1 hy
  have := v3 s hs
  unfold secS
  rw [within_zero.2 ⟨this.1, this.2.1⟩, within_zero.2 ⟨this.2.2.1, this.2.2.2⟩]; rfl
 ·rfl
 ·refine firstS_all fun y hy => ?_
  obtain ⟨s, hs, rfl⟩ := List.mem_map.1 hy
  exact within_zero.2 (v5 s hs)
 ·unfold facS
  rw [within_zero.2 v6, within_zero.2 v7]; rfl
theorem fltV_S {c : Cab} {f : Flt} (h : fltV c f) : fltS c f = 0 := by
 obtain ⟨hv, g1, g2, g3, g4, g5⟩ := h
 unfold fltS
 rw [if_pos (cabV_S hv), if_pos (secE_zero.2 g1), if_neg g5]
 unfold offE
 rw [within_zero.2 ⟨g2.1, by omega⟩, within_zero.2 g3, within_zero.2 g4]; rfl
theorem winS_zero {c : Cab} {f : Flt} {win : Int} (h : fltV c f) (hw : 0 ≤ win ∧ win ≤ 1000) : winS c f win = 0 := by
 unfold winS
 rw [fltV_S h, within_zero.2 hw]; rfl
def partQ (x : Int × Int) (t : Int) : Int := (x.1 * t).tdiv x.2
def splitL (l : List (Int × Int)) (s : Nat) (t : Int) : List (Int × Int) := l.take s ++ (partQ (l.getD s (0, 0)) t, t) :: ((l.getD s (0, 0)).1 - partQ (l.getD s (0, 0)) t, (l.getD s (0, 0)).2 - t) :: l.drop (s + 1)
def splitC (c : Cab) (s : Nat) (t : Int) : Cab := (splitL c.1 s t, c.2.1.take s ++ 0 :: c.2.1.drop s, c.2.2)
theorem partQ_bd {x : Int × Int} {t : Int} (hx : 1 ≤ x.1 ∧ x.1 ≤ 100000 ∧ 1 ≤ x.2 ∧ x.2 ≤ 64) (ht : 1 ≤ t ∧ t < x.2) : 0 ≤ partQ x t ∧ partQ x t < x.1 := by
 have h0 : 0 ≤ x.1 * t := Int.mul_nonneg (by omega) (by omega)
 unfold partQ
 rw [Int.tdiv_eq_ediv_of_nonneg h0]
 refine ⟨Int.ediv_nonneg h0 (by omega), ?_⟩
 refine Int.ediv_lt_of_lt_mul (by omega) ?_
 exact Int.mul_lt_mul_of_pos_left ht.2 (by omega)
set_option maxHeartbeats 20000000
set_option maxHeartbeats 20000000
set_option pp.deepTerms true
set_option pp.maxSteps 1000000
abbrev G95 : Gam := (17, cShort) :: G94
theorem g95 [Sx.Dr] : GamOk Tryz.prog G95 := .cons ok17 g94
abbrev G96 : Gam := G95
theorem g96 [Sx.Dr] : GamOk Tryz.prog G96 := g95
abbrev G97 : Gam := G96
theorem g97 [Sx.Dr] : GamOk Tryz.prog G97 := g96
abbrev G98 : Gam := (34, (cConv 107 130 sArr)) :: G97
theorem g98 [Sx.Dr] : GamOk Tryz.prog G98 := .cons ok34 g97
abbrev G99 : Gam := G98
theorem g99 [Sx.Dr] : GamOk Tryz.prog G99 := g98
abbrev G100 : Gam := (19, cOwn) :: G99
theorem g100 [Sx.Dr] : GamOk Tryz.prog G100 := .cons ok19 g99
abbrev G101 : Gam := (55, cTold) :: G100
theorem g101 [Sx.Dr] : GamOk Tryz.prog G101 := .cons ok55 g100
abbrev G102 : Gam := G101
theorem g102 [Sx.Dr] : GamOk Tryz.prog G102 := g101
abbrev G103 : Gam := (33, cSameA) :: G102
theorem g103 [Sx.Dr] : GamOk Tryz.prog G103 := .cons ok33 g102
abbrev G104 : Gam := (83, cSameI) :: G103
theorem g104 [Sx.Dr] : GamOk Tryz.prog G104 := .cons ok83 g103
abbrev G105 : Gam := (75, cSameC) :: G104
theorem g105 [Sx.Dr] : GamOk Tryz.prog G105 := .cons ok75 g104
abbrev G106 : Gam := (35, cSameF) :: G105
theorem g106 [Sx.Dr] : GamOk Tryz.prog G106 := .cons ok35 g105
abbrev G107 : Gam := G106
theorem g107 [Sx.Dr] : GamOk Tryz.prog G107 := g106
abbrev G108 : Gam := G107
theorem g108 [Sx.Dr] : GamOk Tryz.prog G108 := g107
abbrev G109 : Gam := G108
theorem g109 [Sx.Dr] : GamOk Tryz.prog G109 := g108
abbrev G110 : Gam := (81, cLineC) :: G109
theorem g110 [Sx.Dr] : GamOk Tryz.prog G110 := .cons ok81 g109
abbrev G111 : Gam := (82, cFaultC) :: G110
theorem g111 [Sx.Dr] : GamOk Tryz.prog G111 := .cons ok82 g110
def clrE (c : Cab) (f : Flt) (p : Pln) : Int := firstS [fltS c f, plnS p]
def openAt (l : List Arr) (e : ByteArray) (p : Pln) : Option Int := openS l e (((findA e l).getD dA).1 + p.2.1) p.2.2.1 p.2.2.2
def bothT (l : List Arr) (p : Pln) : Bool := tripS l sA p.1.1 && tripS l sB p.1.2
def clrG (l : List Arr) (p : Pln) : Int × Int := if bothT l p = true ∧ (openAt l sA p).isSome = true ∧ (openAt l sB p).isSome = true then ((openAt l sA p).getD 0, (openAt l sB p).getD 0) else (0, 0)
def clrGE (l : List Arr) (p : Pln) : Int := if bothT l p = true then (if (openAt l sA p).isSome = true ∧ (openAt l sB p).isSome = true then 0 else 32) else 31
def clrF (c : Cab) (f : Flt) (p : Pln) : Int × Int := if clrE c f p = 0 then clrG (arrS c f p.2.2.2) p else (0, 0)
def clrEE (c : Cab) (f : Flt) (p : Pln) : Int := if clrE c f p = 0 then clrGE (arrS c f p.2.2.2) p else clrE c f p
theorem clrE_zero {c : Cab} {f : Flt} {p : Pln} (h : clrE c f p = 0) : fltV c f ∧ winS c f p.2.2.2 = 0 ∧ (0 ≤ p.2.1 ∧ p.2.1 ≤ 100000) ∧ (0 ≤ p.2.2.2 ∧ p.2.2.2 ≤ 1000) := by
 have hz := firstS_zero (show firstS [fltS c f, plnS p] = 0 from h)
 simp only [List.mem_cons, List.not_mem_nil, or_false, forall_eq_or_imp, forall_eq] at hz
 obtain ⟨a1, a2⟩ := hz
 have hz := firstS_zero (show firstS [_, _, _, _, _] = 0 from a2)
 simp only [List.mem_cons, List.not_mem_nil, or_false, forall_eq_or_imp, forall_eq] at hz
 have b3 := within_zero.1 hz.2.2.1
 have b5 := within_zero.1 hz.2.2.2.2
 have hf := (fltS_V a1).2
 exact ⟨hf, winS_zero hf b5, b3, b5⟩
theorem find_tick {c : Cab} {f : Flt} {win : Int} (h : fltV c f) (e : ByteArray) : 0 ≤ ((findA e (arrS c f win)).getD dA).1 ∧ ((findA e (arrS c f win)).getD dA).1 ≤ 100448 := by
 cases hf : findA e (arrS c f win) with
 | none => exact ⟨by decide, by decide⟩
 | some a =>
  have := (arr_tick h (List.mem_of_find?_eq_some hf)).1
  exact this
def cClr : Con := { args := [aC, aF, aPl], ress := [Pr, I], owns := [], pre := fun (c, _) => [c.1.length ≤ 1000000, c.2.1.length ≤ 1000000], spec := fun (c, f, p, _) => (clrF c f p, clrEE c f p, ()) }
abbrev annUnC : Nat → Option Ann := fun i => if i = 0 ∨ i = 2 then some { X := Unit, σ := fun _ => ⟨0, [], []⟩, inv := fun _ => True, mu := fun _ => 0, un := 3 } else none
def vc49_0 (c : Cab) (f : Flt) (p : Pln) := (arrS (c.1, c.2.1, c.2.2.1, c.2.2.2) (f.1, f.2.1, f.2.2.1, f.2.2.2) p.2.2.2)
def vc49_1 (c : Cab) (f : Flt) (p : Pln) := (true = true → List.length (vc49_0 c f p) ≤ (1000000 : Nat) ∧ (((-9223372036854775808 : Int) ≤ (Option.getD (findA (ByteArray.mk (Array.mk [(65 : UInt8)])) (vc49_0 c f p)) dA).1 + p.2.1 ∧ (Option.getD (findA (ByteArray.mk (Array.mk [(65 : UInt8)])) (vc49_0 c f p)) dA).1 + p.2.1 ≤ (9223372036854775807 : Int)) ∧ List.length (vc49_0 c f p) ≤ (100000 : Nat) ∧ arrB (vc49_0 c f p) ∧ ((-1000000000 : Int) ≤ (Option.getD (findA (ByteArray.mk (Array.mk [(65 : UInt8)])) (vc49_0 c f p)) dA).1 + p.2.1 ∧ (Option.getD (findA (ByteArray.mk (Array.mk [(65 : UInt8)])) (vc49_0 c f p)) dA).1 + p.2.1 ≤ (2000000000 : Int)) ∧ (0 : Int) ≤ p.2.2.2 ∧ p.2.2.2 ≤ (100000 : Int)) ∧ ((!Option.isSome (openS (vc49_0 c f p) (ByteArray.mk (Array.mk [(65 : UInt8)])) ((Option.getD (findA (ByteArray.mk (Array.mk [(65 : UInt8)])) (vc49_0 c f p)) dA).1 + p.2.1) p.2.2.1 p.2.2.2)) = true → true = true ∧ ((0 : Int), (0 : Int)) = clrF c f p ∧ (32 : Int) = clrEE c f p) ∧ ((!Option.isSome (openS (vc49_0 c f p) (ByteArray.mk (Array.mk [(65 : UInt8)])) ((Option.getD (findA (ByteArray.mk (Array.mk [(65 : UInt8)])) (vc49_0 c f p)) dA).1 + p.2.1) p.2.2.1 p.2.2.2)) = false → ((-9223372036854775808 : Int) ≤ (0 : Int) + (1 : Int) ∧ (0 : Int) + (1 : Int) ≤ (9223372036854775807 : Int)) ∧ (true = true → List.length (vc49_0 c f p) ≤ (1000000 : Nat) ∧ (((-9223372036854775808 : Int) ≤ (Option.getD (findA (ByteArray.mk (Array.mk [(66 : UInt8)])) (vc49_0 c f p)) dA).1 + p.2.1 ∧ (Option.getD (findA (ByteArray.mk (Array.mk [(66 : UInt8)])) (vc49_0 c f p)) dA).1 + p.2.1 ≤ (9223372036854775807 : Int)) ∧ List.length (vc49_0 c f p) ≤ (100000 : Nat) ∧ arrB (vc49_0 c f p) ∧ ((-1000000000 : Int) ≤ (Option.getD (findA (ByteArray.mk (Array.mk [(66 : UInt8)])) (vc49_0 c f p)) dA).1 + p.2.1 ∧ (Option.getD (findA (ByteArray.mk (Array.mk [(66 : UInt8)])) (vc49_0 c f p)) dA).1 + p.2.1 ≤ (2000000000 : Int)) ∧ (0 : Int) ≤ p.2.2.2 ∧ p.2.2.2 ≤ (100000 : Int)) ∧ ((!Option.isSome (openS (vc49_0 c f p) (ByteArray.mk (Array.mk [(66 : UInt8)])) ((Option.getD (findA (ByteArray.mk (Array.mk [(66 : UInt8)])) (vc49_0 c f p)) dA).1 + p.2.1) p.2.2.1 p.2.2.2)) = true → true = true ∧ ((0 : Int), (0 : Int)) = clrF c f p ∧ (32 : Int) = clrEE c f p) ∧ ((!Option.isSome (openS (vc49_0 c f p) (ByteArray.mk (Array.mk [(66 : UInt8)])) ((Option.getD (findA (ByteArray.mk (Array.mk [(66 : UInt8)])) (vc49_0 c f p)) dA).1 + p.2.1) p.2.2.1 p.2.2.2)) = false → ((-9223372036854775808 : Int) ≤ (0 : Int) + (1 : Int) + (1 : Int) ∧ (0 : Int) + (1 : Int) + (1 : Int) ≤ (9223372036854775807 : Int)) ∧ (false = true → STUCK (9999 : Nat) (1 : Nat)) ∧ (false = false → true = true ∧ (Option.getD (openS (vc49_0 c f p) (ByteArray.mk (Array.mk [(65 : UInt8)])) ((Option.getD (findA (ByteArray.mk (Array.mk [(65 : UInt8)])) (vc49_0 c f p)) dA).1 + p.2.1) p.2.2.1 p.2.2.2) (0 : Int), Option.getD (openS (vc49_0 c f p) (ByteArray.mk (Array.mk [(66 : UInt8)])) ((Option.getD (findA (ByteArray.mk (Array.mk [(66 : UInt8)])) (vc49_0 c f p)) dA).1 + p.2.1) p.2.2.1 p.2.2.2) (0 : Int)) = clrF c f p ∧ (0 : Int) = clrEE c f p))) ∧ (true = false → true = true ∧ (Option.getD (openS (vc49_0 c f p) (ByteArray.mk (Array.mk [(65 : UInt8)])) ((Option.getD (findA (ByteArray.mk (Array.mk [(65 : UInt8)])) (vc49_0 c f p)) dA).1 + p.2.1) p.2.2.1 p.2.2.2) (0 : Int), (0 : Int)) = clrF c f p ∧ (0 : Int) = clrEE c f p)))
theorem vc49 : ∀ (c : Cab) (f : Flt) (p : Pln), wpFG Tryz.prog G111 annUnC (fun (x : FuncId) (x_1 : Nat) => none) (Sx.look [((86 : Nat), Tryz.f86)]) Tryz.f49 cClr (c, f, p, ()) = (List.length c.1 ≤ 1000000 → List.length c.2.1 ≤ 1000000 → (List.length c.1 ≤ 1000000 ∧ List.length c.2.1 ≤ 1000000 ∧ 2 ≤ 1000000) ∧ ((firstS [fltS (c.1, c.2.1, c.2.2.1, c.2.2.2) (f.1, f.2.1, f.2.2.1, f.2.2.2), plnS ((p.1.1, p.1.2), p.2.1, p.2.2.1, p.2.2.2)] != 0) = true → true = true ∧ (0, 0) = clrF c f p ∧ firstS [fltS (c.1, c.2.1, c.2.2.1, c.2.2.2) (f.1, f.2.1, f.2.2.1, f.2.2.2), plnS ((p.1.1, p.1.2), p.2.1, p.2.2.1, p.2.2.2)] = clrEE c f p) ∧ ((firstS [fltS (c.1, c.2.1, c.2.2.1, c.2.2.2) (f.1, f.2.1, f.2.2.1, f.2.2.2), plnS ((p.1.1, p.1.2), p.2.1, p.2.2.1, p.2.2.2)] != 0) = false → winS (c.1, c.2.1, c.2.2.1, c.2.2.2) (f.1, f.2.1, f.2.2.1, f.2.2.2) p.2.2.2 = 0 ∧ (true = true → (List.length (vc49_0 c f p) ≤ 1000000 ∧ arrB (vc49_0 c f p)) ∧ ((-9223372036854775808 : Int) ≤ 0 + 1 ∧ (0 : Int) + 1 ≤ 9223372036854775807) ∧ (true = true → (List.length (vc49_0 c f p) ≤ 1000000 ∧ arrB (vc49_0 c f p)) ∧ ((-9223372036854775808 : Int) ≤ 0 + (1 : Int) + 1 ∧ (0 : Int) + 1 + (1 : Int) ≤ 9223372036854775807) ∧ (false = true → STUCK 9999 1) ∧ (false = false → ((!(tripS (vc49_0 c f p) (ByteArray.mk (Array.mk [(65 : UInt8)])) p.1.1 == true && (tripS (vc49_0 c f p) (ByteArray.mk (Array.mk [(66 : UInt8)])) p.1.2 == true && true))) = true → true = true ∧ (0, 0) = clrF c f p ∧ 31 = clrEE c f p) ∧ ((!(tripS (vc49_0 c f p) (ByteArray.mk (Array.mk [(65 : UInt8)])) p.1.1 == true && (tripS (vc49_0 c f p) (ByteArray.mk (Array.mk [(66 : UInt8)])) p.1.2 == true && true))) = false → (vc49_1 c f p) ∧ (true = false → true = true ∧ (0, 0) = clrF c f p ∧ 0 = clrEE c f p)))) ∧ (true = false → ((!(tripS (vc49_0 c f p) (ByteArray.mk (Array.mk [(65 : UInt8)])) p.1.1 == true && false)) = true → true = true ∧ (0, 0) = clrF c f p ∧ 31 = clrEE c f p) ∧ ((!(tripS (vc49_0 c f p) (ByteArray.mk (Array.mk [(65 : UInt8)])) p.1.1 == true && false)) = false → (vc49_1 c f p) ∧ (true = false → true = true ∧ (0, 0) = clrF c f p ∧ 0 = clrEE c f p)))) ∧ (true = false → (true = true → true = true ∧ (0, 0) = clrF c f p ∧ 31 = clrEE c f p) ∧ (true = false → (vc49_1 c f p) ∧ (true = false → true = true ∧ (0, 0) = clrF c f p ∧ 0 = clrEE c f p))))) := by
 intros
 kernel_rfl
theorem wp49 (c : Cab) (f : Flt) (p : Pln) : wpFG Tryz.prog G111 (annUnC) (fun _ _ => none) (Sx.look ([(86, Tryz.f86)] : List (Nat × Func))) Tryz.f49 cClr (c, f, p, ()) := by
 refine (vc49 c f p).mpr ?_
 delta vc49_0 vc49_1
 intro h1 h2
 refine ⟨⟨h1, h2, by omega⟩, fun h => ?_, fun h => ?_⟩
 ·have h : ¬ clrE c f p = 0 := bne_iff_ne.1 h
  unfold clrF clrEE; rw [if_neg h, if_neg h]; exact ⟨rfl, rfl, rfl⟩
 have h : clrE c f p = 0 := bne_eq_false_iff_eq.1 h
 obtain ⟨hf, hw, b1, b2⟩ := clrE_zero h
 obtain ⟨hB, hL⟩ := arrS_bd (win := p.2.2.2) hf
 have tA := find_tick (win := p.2.2.2) hf sA
 have tB := find_tick (win := p.2.2.2) hf sB
 have eF : clrF c f p = clrG (arrS c f p.2.2.2) p := if_pos h
 have eE : clrEE c f p = clrGE (arrS c f p.2.2.2) p := if_pos h
 rw [eF, eE]
 have hL6 : (arrS c f p.2.2.2).length ≤ 1000000 := by omega
 have hL5 : (arrS c f p.2.2.2).length ≤ 100000 := by omega
 have kA : -1000000000 ≤ ((findA sA (arrS c f p.2.2.2)).getD dA).1 + p.2.1 ∧ ((findA sA (arrS c f p.2.2.2)).getD dA).1 + p.2.1 ≤ 2000000000 := by omega
 have kB : -1000000000 ≤ ((findA sB (arrS c f p.2.2.2)).getD dA).1 + p.2.1 ∧ ((findA sB (arrS c f p.2.2.2)).getD dA).1 + p.2.1 ≤ 2000000000 := by omega
 have jA : -9223372036854775808 ≤ ((findA sA (arrS c f p.2.2.2)).getD dA).1 + p.2.1 ∧ ((findA sA (arrS c f p.2.2.2)).getD dA).1 + p.2.1 ≤ 9223372036854775807 := by omega
 have jB : -9223372036854775808 ≤ ((findA sB (arrS c f p.2.2.2)).getD dA).1 + p.2.1 ∧ ((findA sB (arrS c f p.2.2.2)).getD dA).1 + p.2.1 ≤ 9223372036854775807 := by omega
 have b2' : 0 ≤ p.2.2.2 ∧ p.2.2.2 ≤ 100000 := by omega
 have eT : ∀ x y : Bool, (!(x == true && (y == true && true))) = !(x && y) := by decide
 refine ⟨hw, fun _ => ⟨⟨hL6, hB⟩, by omega, fun _ => ⟨⟨hL6, hB⟩, by omega, fun q => (by cases q), fun _ => ⟨fun q => ?_, fun q => ⟨fun _ => ⟨hL6, ⟨jA, hL5, hB, kA, b2'⟩, fun q1 => ?_, fun q1 => ⟨by omega, fun _ => ⟨hL6, ⟨jB, hL5, hB, kB, b2'⟩, fun q2 => ?_, fun q2 => ⟨by omega, fun q => (by cases q), fun _ => ?_⟩⟩, fun q => (by cases q)⟩⟩, fun q => (by cases q)⟩⟩⟩, fun q => (by cases q)⟩, fun q => (by cases q)⟩
 ·rw [eT] at q
  have q : (!bothT (arrS c f p.2.2.2) p) = true := q
  have q : bothT (arrS c f p.2.2.2) p = false := by simpa using q
  unfold clrG clrGE
  rw [q, if_neg (fun q => by cases q.1), if_neg (by decide)]
  exact ⟨rfl, rfl, rfl⟩
 ·rw [eT] at q
  have q : (!bothT (arrS c f p.2.2.2) p) = false := q
  have q : bothT (arrS c f p.2.2.2) p = true := by simpa using q
  have q1 : (!(openAt (arrS c f p.2.2.2) sA p).isSome) = true := q1
  have q1 : (openAt (arrS c f p.2.2.2) sA p).isSome = false := by simpa using q1
  unfold clrG clrGE
  rw [q, q1, if_neg (fun q => by cases q.2.1), if_pos rfl, if_neg (fun q => by cases q.1)]
  exact ⟨rfl, rfl, rfl⟩
 ·rw [eT] at q
  have q : (!bothT (arrS c f p.2.2.2) p) = false := q
  have q : bothT (arrS c f p.2.2.2) p = true := by simpa using q
  have q2 : (!(openAt (arrS c f p.2.2.2) sB p).isSome) = true := q2
  have q2 : (openAt (arrS c f p.2.2.2) sB p).isSome = false := by simpa using q2
  unfold clrG clrGE
  rw [q, q2, if_neg (fun q => by cases q.2.2), if_pos rfl, if_neg (fun q => by cases q.2)]
  exact ⟨rfl, rfl, rfl⟩
 ·rw [eT] at q
  have q : (!bothT (arrS c f p.2.2.2) p) = false := q
  have q : bothT (arrS c f p.2.2.2) p = true := by simpa using q
  have q1 : (!(openAt (arrS c f p.2.2.2) sA p).isSome) = false := q1
  have q1 : (openAt (arrS c f p.2.2.2) sA p).isSome = true := by simpa using q1
  have q2 : (!(openAt (arrS c f p.2.2.2) sB p).isSome) = false := q2
  have q2 : (openAt (arrS c f p.2.2.2) sB p).isSome = true := by simpa using q2
  unfold clrG clrGE
  rw [q, q1, q2, if_pos ⟨rfl, rfl, rfl⟩, if_pos rfl, if_pos ⟨rfl, rfl⟩]
  exact ⟨rfl, rfl, rfl⟩
theorem ok49 [Sx.Dr] : Ok Tryz.prog 49 cClr := ok_of_wpG mixed g111 (by kernel_rfl) (by kernel_rfl) (lib_ok (List.forall_mem_cons.2 ⟨by kernel_rfl, by simp⟩)) (fun xx => annUnC) (fun xx => fun _ _ => none) fun xx => wp49 xx.1 xx.2.1 xx.2.2.1
abbrev G112 : Gam := (49, cClr) :: G111
theorem g112 [Sx.Dr] : GamOk Tryz.prog G112 := .cons ok49 g111
abbrev G113 : Gam := G112
theorem g113 [Sx.Dr] : GamOk Tryz.prog G113 := g112
set_option maxHeartbeats 20000000
set_option pp.deepTerms true
set_option pp.maxSteps 1000000
abbrev G114 : Gam := G113
theorem g114 [Sx.Dr] : GamOk Tryz.prog G114 := g113
def absI (n : Int) : Int := max n (0 - n)
def absA : List Arr → Int
 | [] => 0
 | a :: r => absI a.2.2 + absA r
def absM : AM → Int
 | [] => 0
 | p :: r => absI p.2 + absM r
theorem absM_add (k : Arr) (h : Int) : ∀ m : AM, absM (addM m k h) ≤ absM m + absI h
 | [] => by
  have : addM [] k h = [(k, 0 + h)] := rfl
  rw [this]; simp only [absM]; unfold absI; omega
 | x :: r => by
  have ih := absM_add k h r
  unfold addM at ih ⊢
  simp only [mpGet, mpSet]
  by_cases e : keyEq sArr k x.1 = true
  ·rw [if_pos e, if_pos e]
   simp only [absM, Option.getD_some]; unfold absI; omega
  ·rw [if_neg e, if_neg e]
   simp only [absM]; omega
theorem absM_hit {c : Cab} {m : AM} {w : Stp} (h : -17179869184 ≤ w.2.2.2.2 ∧ w.2.2.2.2 ≤ 17179869184) : absM (hitM c m w) ≤ absM m + 17179869184 := by
 unfold hitM
 have hb : absI w.2.2.2.2 ≤ 17179869184 := by unfold absI; omega
 repeat' split
 ·have := absM_add (w.1, sA, 0) w.2.2.2.2 m; omega
 ·have := absM_add (w.1, sB, 0) w.2.2.2.2 m; omega
 ·omega
theorem absM_fold {c : Cab} : ∀ {l : List Stp} {m : AM}, (∀ w ∈ l, wvH c w) → absM (l.foldl (hitM c) m) ≤ absM m + 17179869184 * l.length
 | [], m, _ => by simp
 | w :: r, m, h => by
  have h1 := absM_hit (c := c) (m := m) (wvH_ht (h w (by simp)))
  have h2 := absM_fold (c := c) (l := r) (m := hitM c m w) fun x hx => h x (by simp [hx])
  simp only [List.foldl_cons, List.length_cons]; omega
theorem absA_map : ∀ m : AM, absA (m.map rowA) = absM m
 | [] => rfl
 | p :: r => by
  simp only [List.map_cons, absA, absM, absA_map r]; rfl
theorem absA_perm {l r : List Arr} (h : l.Perm r) : absA l = absA r := by
 induction h with
 | nil => rfl
 | cons x _ ih => simp only [absA, ih]
 | swap x y l => simp only [absA]; omega
 | trans _ _ h1 h2 => rw [h1, h2]
theorem sumGo_abs {e : ByteArray} {t : Int} : ∀ {l : List Arr} {n : Int}, n - absA l ≤ sumGo e t l n ∧ sumGo e t l n ≤ n + absA l
 | [], n => by simp [sumGo, absA]
 | a :: r, n => by
  have ih := sumGo_abs (e := e) (t := t) (l := r) (n := bif okAt e t a then n + a.2.2 else n)
  have h0 : 0 ≤ absI a.2.2 ∧ a.2.2 ≤ absI a.2.2 ∧ -absI a.2.2 ≤ a.2.2 := by unfold absI; omega
  simp only [sumGo, absA]
  cases hq : okAt e t a
  ·rw [hq] at ih; simp only [cond_false] at ih ⊢; omega
  ·rw [hq] at ih; simp only [cond_true] at ih ⊢; omega
theorem sum_arr {c : Cab} {f : Flt} {win : Int} (h : fltV c f) (e : ByteArray) (t : Int) : -4363686772736 ≤ sumAt (arrS c f win) e t ∧ sumAt (arrS c f win) e t ≤ 4363686772736 := by
 have h1 := sumGo_abs (e := e) (t := t) (l := arrS c f win) (n := 0)
 have h2 : absA (arrS c f win) = absM (sumsM c (wavesS c f win)) := (absA_perm (sortA_perm _)).trans (absA_map _)
 have h3 := absM_fold (c := c) (m := []) fun w hw => ((waves_H (win := win) h).1 w hw).1
 have h3 : absM (sumsM c (wavesS c f win)) ≤ 0 + 17179869184 * (wavesS c f win).length := h3
 have h4 := waves_len (win := win) h
 unfold sumAt
 omega
def rcE (c : Cab) (f : Flt) (e : ByteArray) (w : Int) : Int := firstS [fltS c f, endS e, withinS w 0 1000]
def rcS (l : List Arr) (e : ByteArray) (t : Int) : Int := roundS (16 * sumAt l e t) 262144
def rcA (l : List Arr) (e : ByteArray) (t : Int) : Nat → List Nat
 | 0 => []
 | k + 1 => rcA l e t k ++ [smpS (rcS l e (t + k))]
def rcBig (l : List Arr) (e : ByteArray) (t : Int) : Nat → Bool
 | 0 => false
 | k + 1 => rcBig l e t k || largeS (rcS l e (t + k))
def rcG (l : List Arr) (e : ByteArray) (t w : Int) : List Nat := if rcBig l e t (w + 1).toNat = true then [] else rcA l e t (w + 1).toNat
def rcGE (l : List Arr) (e : ByteArray) (t w : Int) : Int := if rcBig l e t (w + 1).toNat = true then 4 else 0
def rcF (c : Cab) (f : Flt) (e : ByteArray) (w : Int) : List Nat := if rcE c f e w = 0 then rcG (arrS c f w) e f.2.2.1 w else []
def rcEE (c : Cab) (f : Flt) (e : ByteArray) (w : Int) : Int := if rcE c f e w = 0 then rcGE (arrS c f w) e f.2.2.1 w else rcE c f e w
theorem rcE_zero {c : Cab} {f : Flt} {e : ByteArray} {w : Int} (h : rcE c f e w = 0) : fltV c f ∧ winS c f w = 0 ∧ 0 ≤ w ∧ w ≤ 1000 := by
 have hz := firstS_zero (show firstS [fltS c f, endS e, withinS w 0 1000] = 0 from h)
 simp only [List.mem_cons, List.not_mem_nil, or_false, forall_eq_or_imp, forall_eq] at hz
 have b := within_zero.1 hz.2.2
 have hf := (fltS_V hz.1).2
 exact ⟨hf, winS_zero hf b, b⟩
theorem rcA_len (l : List Arr) (e : ByteArray) (t : Int) : ∀ k, (rcA l e t k).length = k
 | 0 => rfl
 | k + 1 => by simp only [rcA, List.length_append, List.length_singleton, rcA_len l e t k]
theorem rcBig_mono {l : List Arr} {e : ByteArray} {t : Int} {k : Nat} : ∀ {m : Nat}, k ≤ m → rcBig l e t k = true → rcBig l e t m = true
  | 0, h, hb => by have : k = 0 := by omega
                   subst this; exact hb
  | m + 1, h, hb => by
    by_cases e' : k = m + 1
    · rw [← e']; exact hb
    · simp only [rcBig]
      rw [rcBig_mono (m := m) (by omega) hb]; rfl
theorem large_eq (n : Int) : (bif decide (16384 < n) then true else decide (n < -16384)) = largeS n := by
 unfold largeS; cases decide (16384 < n) <;> rfl
def cRec : Con := { args := [aC, aF, aS, aI], ress := [(false, .list 164 sFl), I], owns := [], pre := fun (c, _) => [c.1.length ≤ 1000000, c.2.1.length ≤ 1000000], spec := fun (c, f, e, w, _) => (rcF c f e w, rcEE c f e w, ()) }
abbrev annRec (c : Cab) (f : Flt) (e : ByteArray) (w : Int) : Ann := { X := Nat, σ := fun k => ⟨7, [(2, .one (.str e)), (5, .one (.ptr 3 0)), (11, .one (.sl 5)), (12, .one (.sl 6)), (35, .one (.int .i64 (w + 1))), (36, .one (.int .i64 k))], [(3, .box 31 [.int .i64 f.1, .int .i64 f.2.1, .int .i64 f.2.2.1, .int .i64 f.2.2.2]), (5, .imm 107 sArr (arrS c f w)), (6, .own 164 sFl (rcA (arrS c f w) e f.2.2.1 k))]⟩, inv := fun k => rcE c f e w = 0 ∧ (k : Int) ≤ w + 1 ∧ rcBig (arrS c f w) e f.2.2.1 k = false, mu := fun k => (w + 1).toNat - k }
def vc22_0 (c : Cab) (f : Flt) (e : ByteArray) (w : Int) (x : Nat) := (bif decide ((16384 : Int) < roundS ((16 : Int) * sumAt (arrS c f w) e (f.2.2.1 + (↑x : Int))) (262144 : Int)) then true else decide (roundS ((16 : Int) * sumAt (arrS c f w) e (f.2.2.1 + (↑x : Int))) (262144 : Int) < (-16384 : Int)))
theorem vc22 : ∀ (c : Cab) (f : Flt) (e : ByteArray) (w : Int), wpF Tryz.prog G114 (ann0 (annRec c f e w)) Tryz.f22 cRec (c, f, e, w, ()) = (List.length c.1 ≤ 1000000 → List.length c.2.1 ≤ 1000000 → (List.length c.1 ≤ 1000000 ∧ List.length c.2.1 ≤ 1000000 ∧ 3 ≤ 1000000) ∧ ((firstS [fltS (c.1, c.2.1, c.2.2.1, c.2.2.2) (f.1, f.2.1, f.2.2.1, f.2.2.2), endS e, withinS w 0 1000] != 0) = true → [] = rcF c f e w ∧ firstS [fltS (c.1, c.2.1, c.2.2.1, c.2.2.2) (f.1, f.2.1, f.2.2.1, f.2.2.2), endS e, withinS w 0 1000] = rcEE c f e w) ∧ ((firstS [fltS (c.1, c.2.1, c.2.2.1, c.2.2.2) (f.1, f.2.1, f.2.2.1, f.2.2.2), endS e, withinS w 0 1000] != 0) = false → winS (c.1, c.2.1, c.2.2.1, c.2.2.2) (f.1, f.2.1, f.2.2.1, f.2.2.2) w = 0 ∧ (((-9223372036854775808) ≤ w + 1 ∧ w + (1 : Int) ≤ 9223372036854775807) ∧ ((0 : Int) ≤ 0 ∧ (0 : Int) ≤ 1000000) ∧ 0 ≤ w + 1 ∧ w + (1 : Int) ≤ 1000000) ∧ ((-9223372036854775808) ≤ w + 1 ∧ w + (1 : Int) ≤ 9223372036854775807) ∧ ∃ (x : Nat), (e = e ∧ w + 1 = w + 1 ∧ 0 = (↑x : Int) ∧ f.1 = f.1 ∧ f.2.1 = f.2.1 ∧ f.2.2.1 = f.2.2.1 ∧ f.2.2.2 = f.2.2.2 ∧ arrS (c.1, c.2.1, c.2.2.1, c.2.2.2) (f.1, f.2.1, f.2.2.1, f.2.2.2) w = arrS c f w ∧ [] = rcA (arrS c f w) e f.2.2.1 x) ∧ (rcE c f e w = 0 ∧ (↑x : Int) ≤ w + 1 ∧ rcBig (arrS c f w) e f.2.2.1 x = false) ∧ ∀ (x : Nat), rcE c f e w = 0 ∧ (↑x : Int) ≤ w + 1 ∧ rcBig (arrS c f w) e f.2.2.1 x = false → (decide ((↑x : Int) < w + 1) = true → ((I64 (f.2.2.1 + (↑x : Int))) ∧ List.length (arrS c f w) ≤ 100000 ∧ arrB (arrS c f w) ∧ ((-9223372036854775808 : Int) ≤ 16 * sumAt (arrS c f w) e (f.2.2.1 + (↑x : Int)) ∧ 16 * sumAt (arrS c f w) e (f.2.2.1 + (↑x : Int)) ≤ 9223372036854775807) ∧ ((-400000000000000 : Int) ≤ 16 * sumAt (arrS c f w) e (f.2.2.1 + (↑x : Int)) ∧ 16 * sumAt (arrS c f w) e (f.2.2.1 + (↑x : Int)) ≤ 400000000000000) ∧ (0 : Int) < 262144 ∧ (262144 : Int) ≤ 100000000) ∧ ((vc22_0 c f e w x) = true → [] = rcF c f e w ∧ 4 = rcEE c f e w) ∧ ((vc22_0 c f e w x) = false → (Option.isSome (Ieee.Format.div (Ieee.Format.mk 8 23) (FloatKind.nearest FloatKind.f32 (roundS (16 * sumAt (arrS c f w) e (f.2.2.1 + (↑x : Int))) 262144)) 1098907648) = true ∧ (List.length (rcA (arrS c f w) e f.2.2.1 x) + 1) * 4 ≤ 140737488355328) ∧ ((-9223372036854775808) ≤ (↑x : Int) + 1 ∧ (↑x : Int) + (1 : Int) ≤ 9223372036854775807) ∧ ∃ (y : Nat), (e = e ∧ w + 1 = w + 1 ∧ (↑x : Int) + 1 = (↑y : Int) ∧ f.1 = f.1 ∧ f.2.1 = f.2.1 ∧ f.2.2.1 = f.2.2.1 ∧ f.2.2.2 = f.2.2.2 ∧ arrS c f w = arrS c f w ∧ rcA (arrS c f w) e f.2.2.1 x ++ [Option.getD (Ieee.Format.div (Ieee.Format.mk 8 23) (FloatKind.nearest FloatKind.f32 (roundS (16 * sumAt (arrS c f w) e (f.2.2.1 + (↑x : Int))) 262144)) 1098907648) 0] = rcA (arrS c f w) e f.2.2.1 y) ∧ (rcE c f e w = 0 ∧ (↑y : Int) ≤ w + 1 ∧ rcBig (arrS c f w) e f.2.2.1 y = false) ∧ Int.toNat (w + 1) - y < Int.toNat (w + 1) - x)) ∧ (decide ((↑x : Int) < w + 1) = false → rcA (arrS c f w) e f.2.2.1 x = rcF c f e w ∧ 0 = rcEE c f e w))) := by
 intros
 kernel_rfl
theorem wp22 (c : Cab) (f : Flt) (e : ByteArray) (w : Int) : wpF Tryz.prog G114 (ann0 (annRec c f e w)) Tryz.f22 cRec (c, f, e, w, ()) := by
 refine (vc22 c f e w).mpr ?_
 delta vc22_0
 delta I64
 intro h1 h2
 refine ⟨⟨h1, h2, by omega⟩, fun h => ?_, fun h => ?_⟩
 ·have h : ¬ rcE c f e w = 0 := bne_iff_ne.1 h
  unfold rcF rcEE; rw [if_neg h, if_neg h]; exact ⟨rfl, rfl⟩
 have h : rcE c f e w = 0 := bne_eq_false_iff_eq.1 h
 obtain ⟨hf, hw, b⟩ := rcE_zero h
 obtain ⟨hB, hL⟩ := arrS_bd (win := w) hf
 have g3 := hf.2.2.2.1
 have eF : rcF c f e w = rcG (arrS c f w) e f.2.2.1 w := if_pos h
 have eE : rcEE c f e w = rcGE (arrS c f w) e f.2.2.1 w := if_pos h
 rw [eF, eE]
 refine ⟨hw, by omega, by omega, (0 : Nat), ⟨rfl, rfl, rfl, rfl, rfl, rfl, rfl, rfl, rfl⟩, ⟨h, by show (0 : Int) ≤ w + 1; omega, rfl⟩, fun (k : Nat) hk => ⟨fun q => ?_, fun q => ?_⟩⟩
 ·have q : (k : Int) < w + 1 := of_decide_eq_true q
  have hs := sum_arr (win := w) hf e (f.2.2.1 + k)
  refine ⟨⟨by omega, by omega, hB, by omega, by omega, by omega⟩, fun q1 => ?_, fun q1 => ?_⟩
  ·rw [large_eq] at q1
   have hb : rcBig (arrS c f w) e f.2.2.1 (k + 1) = true := by
    simp only [rcBig]
    rw [show largeS (rcS (arrS c f w) e (f.2.2.1 + k)) = true from q1, Bool.or_true]
   have hb := rcBig_mono (m := (w + 1).toNat) (by omega) hb
   unfold rcG rcGE
   rw [if_pos hb, if_pos hb]; exact ⟨rfl, rfl⟩
  ·rw [large_eq] at q1
   have hb : rcBig (arrS c f w) e f.2.2.1 (k + 1) = false := by
    simp only [rcBig]
    rw [show largeS (rcS (arrS c f w) e (f.2.2.1 + k)) = false from q1, hk.2.2]; rfl
   exact ⟨⟨(smp_some _).1, by rw [rcA_len]; omega⟩, by omega, (k + 1 : Nat), ⟨rfl, rfl, by simp, rfl, rfl, rfl, rfl, rfl, rfl⟩, ⟨h, by omega, hb⟩, by omega⟩
 ·have q : ¬ (k : Int) < w + 1 := of_decide_eq_false q
  have ek : (w + 1).toNat = k := by omega
  unfold rcG rcGE
  rw [ek, hk.2.2, if_neg (by decide), if_neg (by decide)]; exact ⟨rfl, rfl⟩
theorem ok22 [Sx.Dr] : Ok Tryz.prog 22 cRec := ok_of_wp mixed g114 (by kernel_rfl) (by kernel_rfl) (fun xx => ann0 (annRec xx.1 xx.2.1 xx.2.2.1 xx.2.2.2.1)) fun xx => wp22 xx.1 xx.2.1 xx.2.2.1 xx.2.2.2.1
abbrev G115 : Gam := (22, cRec) :: G114
theorem g115 [Sx.Dr] : GamOk Tryz.prog G115 := .cons ok22 g114
abbrev G116 : Gam := G115
theorem g116 [Sx.Dr] : GamOk Tryz.prog G116 := g115
set_option maxHeartbeats 20000000
set_option pp.deepTerms true
set_option pp.maxSteps 1000000
def turnP (c : Cab) (f : Flt) : Flt := if fltS c f = 0 then turnF c f else (0, 0, 0, 0)
def cTurn : Con := { args := [aC, aF], ress := [(true, sFlt), I], owns := [], pre := fun (c, _) => [c.1.length ≤ 1000000, c.2.1.length ≤ 1000000], spec := fun (c, f, _) => (turnP c f, fltS c f, ()) }
theorem vc18 : ∀ (c : Cab) (f : Flt), wpF Tryz.prog G116 (na ()) Tryz.f18 cTurn (c, f, ()) = (List.length c.1 ≤ 1000000 → List.length c.2.1 ≤ 1000000 → (List.length c.1 ≤ 1000000 ∧ List.length c.2.1 ≤ 1000000) ∧ ((fltS (c.1, c.2.1, c.2.2.1, c.2.2.2) (f.1, f.2.1, f.2.2.1, f.2.2.2) != 0) = true → (0, 0, 0, 0) = turnP c f ∧ fltS (c.1, c.2.1, c.2.2.1, c.2.2.2) (f.1, f.2.1, f.2.2.1, f.2.2.2) = fltS c f) ∧ ((fltS (c.1, c.2.1, c.2.2.1, c.2.2.2) (f.1, f.2.1, f.2.2.1, f.2.2.2) != 0) = false → (((-9223372036854775808) ≤ (↑(List.length c.1) : Int) - 1 ∧ (↑(List.length c.1) : Int) - (1 : Int) ≤ 9223372036854775807) ∧ (I64 ((↑(List.length c.1) : Int) - 1 - f.1)) ∧ (0 ≤ f.1 ∧ f.1 < (↑(List.length c.1) : Int)) ∧ (0 ≤ f.1 ∧ f.1 < (↑(List.length c.1) : Int)) ∧ I64 ((List.getD c.1 (Int.toNat f.1) (0, 0)).2 - f.2.1)) ∧ ((↑(List.length c.1) : Int) - 1 - f.1, (List.getD c.1 (Int.toNat f.1) (0, 0)).2 - f.2.1, f.2.2.1, f.2.2.2) = turnP c f ∧ 0 = fltS c f)) := by
 intros
 kernel_rfl
theorem wp18 (c : Cab) (f : Flt) : wpF Tryz.prog G116 (na ()) Tryz.f18 cTurn (c, f, ()) := by
 refine (vc18 c f).mpr ?_
 delta I64
 intro h1 h2
 refine ⟨⟨h1, h2⟩, fun h => ?_, fun h => ?_⟩
 ·have h : ¬ fltS c f = 0 := bne_iff_ne.1 h
  unfold turnP; rw [if_neg h]; exact ⟨rfl, rfl⟩
 ·have h : fltS c f = 0 := bne_eq_false_iff_eq.1 h
  obtain ⟨hv, g1, g2, _⟩ := (fltS_V h).2
  have hl := hv.2.1
  have b := hv.2.2.1 _ (getD_mem (d := (0, 0)) (l := c.1) (k := f.1.toNat) (by omega))
  unfold turnP; rw [if_pos h, h]
  exact ⟨⟨by omega, by omega, g1, g1, by omega⟩, rfl, rfl⟩
theorem ok18 [Sx.Dr] : Ok Tryz.prog 18 cTurn := ok_of_wp mixed g116 (by kernel_rfl) (by kernel_rfl) na fun xx => wp18 xx.1 xx.2.1
abbrev G117 : Gam := (18, cTurn) :: G116
theorem g117 [Sx.Dr] : GamOk Tryz.prog G117 := .cons ok18 g116
abbrev G118 : Gam := G117
theorem g118 [Sx.Dr] : GamOk Tryz.prog G118 := g117
def splE (c : Cab) (s t : Int) : Int := if cabS c = 0 then (if secE c s = 0 then offE c s t else 10) else cabS c
abbrev G119 : Gam := G118
theorem g119 [Sx.Dr] : GamOk Tryz.prog G119 := g118
end Go.Proofs.YtcledkhhecdppaaGreatDoor
namespace Go.Proofs.YtcledkhhecdppaaGreatDoor
instance drOff : Sx.Dr := Sx.Dr.off
open Go.Sx
set_option maxHeartbeats 20000000
set_option pp.deepTerms true
set_option pp.maxSteps 1000000
def cIns117 : Con := { args := [], ress := [], owns := [], pre := fun _ => [False], spec := fun _ => (), prim := some (insP 166 sPt) }
theorem ok117 : Ok Tryz.prog 117 cIns117 := ⟨⟨Tryz.f117, by kernel_rfl, by kernel_rfl, by kernel_rfl⟩, fun z hz => (by cases hz), fun F hF => (by cases hF; exact insP_ok fun w B v n flat i vb vc vcur vs => Tryz.ins117 w B v n flat i vb vc vcur vs), fun _ x M R w vs _ _ hpre _ => False.elim hpre⟩
abbrev G120 : Gam := (117, cIns117) :: G119
theorem g120 : GamOk Tryz.prog G120 := .cons ok117 g119
def cIns118 : Con := { args := [], ress := [], owns := [], pre := fun _ => [False], spec := fun _ => (), prim := some (insP 3 sI) }
theorem ok118 : Ok Tryz.prog 118 cIns118 := ⟨⟨Tryz.f118, by kernel_rfl, by kernel_rfl, by kernel_rfl⟩, fun z hz => (by cases hz), fun F hF => (by cases hF; exact insP_ok fun w B v n flat i vb vc vcur vs => Tryz.ins118 w B v n flat i vb vc vcur vs), fun _ x M R w vs _ _ hpre _ => False.elim hpre⟩
abbrev G121 : Gam := (118, cIns118) :: G120
theorem g121 : GamOk Tryz.prog G121 := .cons ok118 g120
def cClone (T : TypeId) (s : Sch) : Con := { args := [.val false (.list T s)], ress := [(false, .list T s)], owns := [true], pre := fun (l, _) => [l.length ≤ 1000000], spec := fun (l, _) => (l, ()) }
theorem repL_ints {M : Nat → Prop} {w : World} : ∀ {xs : List Int} {flat : List Value}, RepL (Rep M w (.int .i64)) xs flat → flat = xs.map (Value.int .i64)
 | [], _, h => h
 | x :: xs, _, ⟨c1, c2, rfl, h1, h2⟩ => by
  have h1 : c1 = [.int .i64 x] := h1
  rw [h1, repL_ints h2]; rfl
theorem repL_mkI {M : Nat → Prop} {w : World} : ∀ (xs : List Int), RepL (Rep M w (.int .i64)) xs (xs.map (Value.int .i64))
 | [] => rfl
 | x :: xs => ⟨[.int .i64 x], xs.map (Value.int .i64), rfl, rfl, repL_mkI xs⟩
theorem ok119 : Ok Tryz.prog 119 (cClone 3 sI) := by
 refine ⟨⟨Tryz.f119, by kernel_rfl, by kernel_rfl, by kernel_rfl⟩, fun z hz => (by cases hz), fun F hF => (by cases hF), fun _ x M R w vs hM hg hpre hargs => ?_⟩
 obtain ⟨l, u⟩ := x
 obtain ⟨v1, vs1, rfl, ⟨cs, rfl, hr⟩, hn⟩ := hargs
 have hn : vs1 = [] := hn
 subst hn
 obtain ⟨v, flat, rfl, h1, h2⟩ := hr
 have hfl := repL_ints h1
 have hl : l.length ≤ 1000000 := hpre
 have fin : ∀ (v' : Value) (w' : World), w'.ownsRow w.heap.size 3 1 v' l.length (l.map (Value.int .i64)) → RowKit.Below w.heap.size w w' → Post M w (cClone 3 sI).ress (cClone 3 sI).owns ((cClone 3 sI).spec (l, u)) (.returned v') w' := by
  intro v' w' ho hb
  refine ⟨M, [v'], rfl, .ofK hb, fun _ h => h, fun b h => .inl h, _, [], rfl, ⟨l.map (Value.int .i64), repL_mkI l, ho, fun g hg' hMg => ?_⟩, rfl⟩
  rcases ho.2 with ⟨rfl, _⟩ | ⟨g', cap, cur, rfl, hbg, _⟩
  ·cases hg'
  ·have : g' = g := Option.some.inj hg'
   have := hM g (.inl hMg)
   omega
 rcases h2 with ⟨rfl | ⟨ad, cap, rfl⟩, h0⟩ | ⟨b, off, cap, rfl, hcap, hk, hm⟩
 ·have : l = [] := List.eq_nil_of_length_eq_zero h0
  subst this
  refine (Tryz.slices_Clone_int_nil 0 0 w).mono ?_
  rintro e w' ⟨rfl, rfl⟩
  exact fin _ _ ⟨rfl, .inl ⟨rfl, rfl⟩⟩ (RowKit.Below.refl _ _)
 ·have : l = [] := List.eq_nil_of_length_eq_zero h0
  subst this
  refine (Tryz.slices_Clone_int_zero ad cap w).mono ?_
  rintro e w' ⟨v', rfl, ho, _, hb⟩
  exact fin _ _ ho hb
 ·refine (Tryz.slices_Clone_int b off l.length cap l w (Nat.le_refl _) (by omega) (fun j hj => hk j _ (by rw [hfl, List.getElem?_map, List.getElem?_eq_getElem hj]; simp [List.getD_eq_getElem?_getD, List.getElem?_eq_getElem hj]))).mono ?_
  rintro e w' ⟨v', rfl, ho, _, hb⟩
  rw [List.take_of_length_le (Nat.le_refl _)] at ho
  exact fin _ _ ho hb
abbrev G122 : Gam := (119, (cClone 3 sI)) :: G121
theorem g122 : GamOk Tryz.prog G122 := .cons ok119 g121
def splGE (c : Cab) (s t : Int) : Int := if c.1.length = 6 then 5 else if partQ (c.1.getD s.toNat (0, 0)) t = 0 then 16 else 0
def splG (c : Cab) (s t : Int) : Cab := if splGE c s t = 0 then splitC c s.toNat t else ([], [], 0, 0)
def splF (c : Cab) (s t : Int) : Cab := if splE c s t = 0 then splG c s t else ([], [], 0, 0)
def splEE (c : Cab) (s t : Int) : Int := if splE c s t = 0 then splGE c s t else splE c s t
def cSplit : Con := { args := [aC, aI, aI], ress := [(true, sCab 166), I], owns := [], pre := fun (c, _) => [c.1.length ≤ 1000000, c.2.1.length ≤ 1000000], spec := fun (c, s, t, _) => (splF c s t, splEE c s t, ()) }
theorem split_set {α : Type} {y : α} : ∀ {l : List α} {s : Nat}, s < l.length → (l.set s y).take s = l.take s ∧ (l.set s y).drop s = y :: l.drop (s + 1)
 | [], _, h => absurd h (by simp)
 | _ :: _, 0, _ => ⟨rfl, rfl⟩
 | x :: l, s + 1, h => by
  have ih := split_set (y := y) (l := l) (s := s) (by simpa using h)
  exact ⟨congrArg (x :: ·) ih.1, ih.2⟩
theorem fs2 (c : Cab) (s : Int) : firstS [cabS c, secE c s] = if cabS c = 0 then secE c s else cabS c := by
 simp only [firstS]
 by_cases h : cabS c = 0
 ·rw [if_pos h, if_pos h]
  by_cases h2 : secE c s = 0
  ·rw [if_pos h2, h2]
  ·rw [if_neg h2]
 ·rw [if_neg h, if_neg h]
theorem splE_ne {c : Cab} {s : Int} (t : Int) (h : firstS [cabS c, secE c s] ≠ 0) : splE c s t = firstS [cabS c, secE c s] := by
 rw [fs2] at h ⊢
 unfold splE
 by_cases hc : cabS c = 0
 ·rw [if_pos hc] at h
  rw [if_pos hc, if_pos hc, if_neg h]
  rcases secE_cases c s with q | q
  ·exact absurd q h
  ·exact q.symm
 ·rw [if_neg hc, if_neg hc]
theorem splGE_first (c : Cab) (s t : Int) : firstS [bif (c.1.length : Int) == 6 then 5 else 0, bif partQ (c.1.getD s.toNat (0, 0)) t == 0 then 16 else 0] = splGE c s t := by
 unfold splGE
 rw [zero_ite]
 by_cases h : c.1.length = 6
 ·have e : ((c.1.length : Int) == 6) = true := by rw [h]; rfl
  rw [e, if_pos h]; rfl
 ·have e : ((c.1.length : Int) == 6) = false := beq_eq_false_iff_ne.2 (by omega)
  rw [e, if_neg h]
  by_cases h2 : partQ (c.1.getD s.toNat (0, 0)) t = 0
  ·rw [if_pos h2]; rfl
  ·rw [if_neg h2]; rfl
def vc54_0 (c : Cab) (s t : Int) := (List.getD c.1 (Int.toNat s) ((0 : Int), (0 : Int)))
def vc54_1 (c : Cab) (s t : Int) := (List.set c.1 (Int.toNat s) ((vc54_0 c s t).1 - Int.tdiv ((vc54_0 c s t).1 * t) (vc54_0 c s t).2, (vc54_0 c s t).2 - t))
def vc54_2 (c : Cab) (s t : Int) := (c.1, c.2.1, c.2.2.1, c.2.2.2)
theorem vc54 : ∀ (c : Cab) (s t : Int), wpF Tryz.prog G122 (na ()) Tryz.f54 cSplit (c, s, t, ()) = (List.length c.1 ≤ (1000000 : Nat) → List.length c.2.1 ≤ (1000000 : Nat) → (List.length c.1 ≤ (1000000 : Nat) ∧ List.length c.2.1 ≤ (1000000 : Nat) ∧ List.length c.1 ≤ (1000000 : Nat) ∧ (2 : Nat) ≤ (1000000 : Nat)) ∧ ((firstS [cabS (vc54_2 c s t), secE (vc54_2 c s t) s] != (0 : Int)) = true → ([], [], (0 : Int), (0 : Int)) = splF c s t ∧ firstS [cabS (vc54_2 c s t), secE (vc54_2 c s t) s] = splEE c s t) ∧ ((firstS [cabS (vc54_2 c s t), secE (vc54_2 c s t) s] != (0 : Int)) = false → (((0 : Int) ≤ s ∧ s < (↑(List.length c.1) : Int)) ∧ (0 : Int) ≤ s ∧ s < (↑(List.length c.1) : Int)) ∧ (cabS (vc54_2 c s t) = (0 : Int) ∧ (0 : Int) ≤ s ∧ s < (↑(List.length c.1) : Int)) ∧ ((offE (vc54_2 c s t) s t != (0 : Int)) = true → ([], [], (0 : Int), (0 : Int)) = splF c s t ∧ offE (vc54_2 c s t) s t = splEE c s t) ∧ ((offE (vc54_2 c s t) s t != (0 : Int)) = false → (((-9223372036854775808 : Int) ≤ (vc54_0 c s t).1 * t ∧ (vc54_0 c s t).1 * t ≤ (9223372036854775807 : Int)) ∧ ((vc54_0 c s t).2 = (0 : Int) → False) ∧ (-9223372036854775808 : Int) ≤ Int.tdiv ((vc54_0 c s t).1 * t) (vc54_0 c s t).2 ∧ Int.tdiv ((vc54_0 c s t).1 * t) (vc54_0 c s t).2 ≤ (9223372036854775807 : Int)) ∧ (2 : Nat) ≤ (1000000 : Nat) ∧ ((firstS [bif (↑(List.length c.1) : Int) == (6 : Int) then (5 : Int) else (0 : Int), bif Int.tdiv ((vc54_0 c s t).1 * t) (vc54_0 c s t).2 == (0 : Int) then (16 : Int) else (0 : Int)] != (0 : Int)) = true → ([], [], (0 : Int), (0 : Int)) = splF c s t ∧ firstS [bif (↑(List.length c.1) : Int) == (6 : Int) then (5 : Int) else (0 : Int), bif Int.tdiv ((vc54_0 c s t).1 * t) (vc54_0 c s t).2 == (0 : Int) then (16 : Int) else (0 : Int)] = splEE c s t) ∧ ((firstS [bif (↑(List.length c.1) : Int) == (6 : Int) then (5 : Int) else (0 : Int), bif Int.tdiv ((vc54_0 c s t).1 * t) (vc54_0 c s t).2 == (0 : Int) then (16 : Int) else (0 : Int)] != (0 : Int)) = false → (((0 : Int) ≤ (↑(List.length c.1) : Int) ∧ (↑(List.length c.1) : Int) ≤ (1000000 : Int)) ∧ (↑(List.length c.1) : Int) ≤ (↑(List.length c.1) : Int) ∧ (↑(List.length c.1) : Int) ≤ (1000000 : Int)) ∧ (List.length c.1 = List.length (List.replicate (List.length c.1) ((0 : Int), (0 : Int))) ∧ (0 : Nat) < List.length (List.replicate (List.length c.1) ((0 : Int), (0 : Int)))) ∧ (((-9223372036854775808 : Int) ≤ (vc54_0 c s t).1 - Int.tdiv ((vc54_0 c s t).1 * t) (vc54_0 c s t).2 ∧ (vc54_0 c s t).1 - Int.tdiv ((vc54_0 c s t).1 * t) (vc54_0 c s t).2 ≤ (9223372036854775807 : Int)) ∧ ((-9223372036854775808 : Int) ≤ (vc54_0 c s t).2 - t ∧ (vc54_0 c s t).2 - t ≤ (9223372036854775807 : Int)) ∧ ((0 : Int) ≤ s ∧ s < (↑(List.length c.1) : Int)) ∧ (0 : Int) ≤ s ∧ s < (↑(List.length c.1) : Int)) ∧ (((0 : Int) ≤ s ∧ s ≤ (↑(List.length (vc54_1 c s t)) : Int)) ∧ (1 : Nat) = (1 : Nat) ∧ List.length (vc54_1 c s t) ≤ (1000000 : Nat) ∧ List.length c.2.1 ≤ (1000000 : Nat) ∧ ((0 : Int) ≤ s ∧ s ≤ (↑(List.length c.2.1) : Int)) ∧ (1 : Nat) = (1 : Nat) ∧ List.length c.2.1 ≤ (1000000 : Nat)) ∧ (List.take (Int.toNat s) (vc54_1 c s t) ++ [(Int.tdiv ((vc54_0 c s t).1 * t) (vc54_0 c s t).2, t)] ++ List.drop (Int.toNat s) (vc54_1 c s t), List.take (Int.toNat s) c.2.1 ++ [(0 : Int)] ++ List.drop (Int.toNat s) c.2.1, c.2.2.1, c.2.2.2) = splF c s t ∧ (0 : Int) = splEE c s t)))) := by
 intros
 kernel_rfl
theorem wp54 (c : Cab) (s t : Int) : wpF Tryz.prog G122 (na ()) Tryz.f54 cSplit (c, s, t, ()) := by
 refine (vc54 c s t).mpr ?_
 delta vc54_0 vc54_1 vc54_2
 intro h1 h2
 refine ⟨⟨h1, h2, h1, by omega⟩, fun h => ?_, fun h => ?_⟩
 ·have h : ¬ firstS [cabS c, secE c s] = 0 := bne_iff_ne.1 h
  have e := splE_ne t h
  have h' : ¬ splE c s t = 0 := by rw [e]; exact h
  unfold splF splEE
  rw [if_neg h', if_neg h', e]
  exact ⟨rfl, rfl⟩
 have hz : firstS [cabS c, secE c s] = 0 := bne_eq_false_iff_eq.1 h
 have hc : cabS c = 0 := by
  by_cases hc : cabS c = 0
  ·exact hc
  ·rw [fs2, if_neg hc] at hz; exact absurd hz hc
 have hs : secE c s = 0 := by rw [fs2, if_pos hc] at hz; exact hz
 have hr := secE_zero.1 hs
 have hv : cabV c := cabS_V hc
 have he : splE c s t = offE c s t := by unfold splE; rw [if_pos hc, if_pos hs]
 refine ⟨⟨hr, hr⟩, ⟨hc, hr⟩, fun h => ?_, fun h => ?_⟩
 ·have h' : ¬ splE c s t = 0 := by rw [he]; exact bne_iff_ne.1 h
  unfold splF splEE
  rw [if_neg h', if_neg h', he]
  exact ⟨rfl, rfl⟩
 have ho : offE c s t = 0 := bne_eq_false_iff_eq.1 h
 have h0 : splE c s t = 0 := by rw [he]; exact ho
 have b := hv.2.2.1 _ (getD_mem (d := (0, 0)) (l := c.1) (k := s.toNat) (by omega))
 have ht := within_zero.1 ho
 have hq := partQ_bd (t := t) b (by omega)
 have eq : ((c.1.getD s.toNat (0, 0)).1 * t).tdiv (c.1.getD s.toNat (0, 0)).2 = partQ (c.1.getD s.toNat (0, 0)) t := rfl
 rw [eq, splGE_first]
 have hm : 0 ≤ (c.1.getD s.toNat (0, 0)).1 * t := Int.mul_nonneg (by omega) (by omega)
 have hm2 : (c.1.getD s.toNat (0, 0)).1 * t ≤ 100000 * 64 := Int.mul_le_mul (by omega) (by omega) (by omega) (by omega)
 have eF : splF c s t = splG c s t := by unfold splF; rw [if_pos h0]
 have eE : splEE c s t = splGE c s t := by unfold splEE; rw [if_pos h0]
 rw [eF, eE]
 refine ⟨⟨by omega, fun h => by omega, by omega⟩, by omega, fun h => ?_, fun h => ?_⟩
 ·unfold splG
  rw [if_neg (bne_iff_ne.1 h)]
  exact ⟨rfl, rfl⟩
 have hg : splGE c s t = 0 := bne_eq_false_iff_eq.1 h
 have hs' : s.toNat < c.1.length := by omega
 have hl := hv.2.1
 have hl2 := hv.2.2.2.1
 have q1 : 0 ≤ s ∧ s ≤ (c.2.1.length : Int) := by omega
 have q2 : ∀ y, 0 ≤ s ∧ s ≤ ((c.1.set s.toNat y).length : Int) := fun y => by rw [List.length_set]; omega
 have q3 : ∀ y, (c.1.set s.toNat y).length ≤ 1000000 := fun y => by rw [List.length_set]; omega
 refine ⟨⟨by omega, by omega⟩, ⟨by simp, by simp; omega⟩, ⟨by omega, by omega, hr, hr⟩, ⟨q2 _, rfl, q3 _, h2, q1, rfl, h2⟩, ?_, hg.symm⟩
 have e := split_set (y := ((c.1.getD s.toNat (0, 0)).1 - partQ (c.1.getD s.toNat (0, 0)) t, (c.1.getD s.toNat (0, 0)).2 - t)) hs'
 unfold splG
 rw [if_pos hg]
 rw [e.1, e.2]
 unfold splitC splitL
 rw [List.append_assoc, List.append_assoc]
 rfl
theorem ok54 : Ok Tryz.prog 54 cSplit := ok_of_wp mixed g122 (by kernel_rfl) (by kernel_rfl) na fun xx => wp54 xx.1 xx.2.1 xx.2.2.1
abbrev G123 : Gam := (54, cSplit) :: G122
theorem g123 : GamOk Tryz.prog G123 := .cons ok54 g122
set_option maxHeartbeats 20000000
def joinS (xs : List ByteArray) (sep : ByteArray) : ByteArray := ⟨(Lib.join (xs.map (·.data.toList)) sep.data.toList).toArray⟩
def cJoin : Con := { args := [.val false (.list 9 .str), aS], ress := [tS], owns := [], pre := fun (xs, sep, _) => [xs.length ≤ 1000000, (Lib.join (xs.map (·.data.toList)) sep.data.toList).length ≤ 140737488355328], spec := fun (xs, sep, _) => (joinS xs sep, ()) }
def itoaS (n : Int) : ByteArray := ⟨(Lib.itoa n).toArray⟩
def cItoa : Con := { args := [aI], ress := [tS], owns := [], pre := fun (n, _) => [-9223372036854775808 ≤ n ∧ n ≤ 9223372036854775807], spec := fun (n, _) => (itoaS n, ()) }
theorem below_gd (w : World) (q : Nat) (os : Array Obj) : RowKit.Below w.heap.size w (Sort.grow (w.drewN q) os) :=
 ⟨rfl, rfl, rfl, by first | (simp [Sort.grow]; done) | (simp [Sort.grow]; omega), fun i hi => by
  show ((w.drewN q).heap ++ os)[i]? = _
  rw [Array.getElem?_append_left (by show i < w.heap.size; omega)]
  rfl⟩
theorem ok134 : Ok Tryz.prog 134 cItoa := by
 refine ⟨⟨Tryz.f134, by kernel_rfl, by kernel_rfl, by kernel_rfl⟩, fun z hz => (by cases hz), fun F hF => (by cases hF), fun _ x M R w vs hM hg hpre hargs => ?_⟩
 obtain ⟨n, u⟩ := x
 obtain ⟨v, vs', rfl, ha, hr⟩ := hargs
 have hr : vs' = [] := hr
 subst hr
 obtain ⟨cs, rfl, hc⟩ := ha
 have hc : cs = [.int .i64 n] := hc
 subst hc
 have hpre : -9223372036854775808 ≤ n ∧ n ≤ 9223372036854775807 := hpre
 refine (Tryz.strconv_Itoa n hpre.1 hpre.2 w (hg w (Sx.Below.refl _ _)).1).mono ?_
 rintro e w' ⟨rfl, k, os, rfl⟩
 exact ⟨M, [.string (itoaS n)], rfl, .ofK (below_gd w k os), fun _ h => h, fun b h => .inl h, _, [], rfl, ⟨_, rfl, rfl⟩, rfl⟩
theorem repL_strs {M : Nat → Prop} {w : World} : ∀ {xs : List ByteArray} {flat : List Value}, RepL (Rep M w .str) xs flat → flat = xs.map Value.string
 | [], _, h => h
 | x :: xs, flat, ⟨c1, c2, e, h1, h2⟩ => by
  have h1 : c1 = [.string x] := h1
  rw [e, h1, repL_strs h2]; rfl
theorem ok162 : Ok Tryz.prog 162 cJoin := by
 refine ⟨⟨Tryz.f162, by kernel_rfl, by kernel_rfl, by kernel_rfl⟩, fun z hz => (by cases hz), fun F hF => (by cases hF), fun _ x M R w vs hM hg hpre hargs => ?_⟩
 obtain ⟨xs, sep, u⟩ := x
 obtain ⟨v, vs', rfl, ha, v2, vs2, rfl, hb, hr⟩ := hargs
 have hr : vs2 = [] := hr
 subst hr
 obtain ⟨cs, rfl, hc⟩ := ha
 obtain ⟨cs2, rfl, hc2⟩ := hb
 have hc2 : cs2 = [.string sep] := hc2
 subst hc2
 obtain ⟨v, flat, rfl, f1, f2⟩ := hc
 obtain ⟨p1, p2⟩ := hpre
 have hflat := repL_strs f1
 have fin : ∀ (e : Ending) (w' : World), e = .returned (.string (joinS xs sep)) → RowKit.Below w.heap.size w w' → Post M w [tS] [] (joinS xs sep, ()) e w' := fun e w' he hb =>
  ⟨M, [.string (joinS xs sep)], he, .ofK hb, fun _ h => h, fun b h => .inl h, _, [], rfl, ⟨_, rfl, rfl⟩, rfl⟩
 rcases f2 with ⟨rfl | ⟨ad, cap, rfl⟩, h0⟩ | ⟨b, off, cap, rfl, hcap, hk, hm⟩
 ·have : xs = [] := List.eq_nil_of_length_eq_zero h0
  subst this
  refine (Tryz.strings_Join_none none 0 sep w).mono ?_
  rintro e w' ⟨rfl, rfl⟩
  exact fin _ _ rfl (RowKit.Below.refl _ _)
 ·have : xs = [] := List.eq_nil_of_length_eq_zero h0
  subst this
  refine (Tryz.strings_Join_none (some ad) cap sep w).mono ?_
  rintro e w' ⟨rfl, rfl⟩
  exact fin _ _ rfl (RowKit.Below.refl _ _)
 ·cases hx : xs with
  | nil =>
   subst hx
   refine (Tryz.strings_Join_none (some ⟨b, off, none⟩) cap sep w).mono ?_
   rintro e w' ⟨rfl, rfl⟩
   exact fin _ _ rfl (RowKit.Below.refl _ _)
  | cons x0 r =>
   rw [← hx]
   have hne : flat ≠ [] := by rw [hflat, hx]; simp
   refine (Tryz.strings_Join b off cap xs sep w (fun j x hj => hk j _ (by rw [hflat, List.getElem?_map, hj]; rfl)) (hM b (.inl (hm hne))) (by omega) hcap p2).mono ?_
   rintro e w' ⟨rfl, hb⟩
   exact fin _ _ rfl hb
abbrev G124 : Gam := (162, cJoin) :: G123
theorem g124 : GamOk Tryz.prog G124 := .cons ok162 g123
abbrev G125 : Gam := (134, cItoa) :: G124
theorem g125 : GamOk Tryz.prog G125 := .cons ok134 g124
def lineS (xs : List ByteArray) : ByteArray := joinS xs ⟨#[32]⟩ ++ ⟨#[10]⟩
theorem join_le {sep : List UInt8} (hs : sep.length = 1) : ∀ {l : List (List UInt8)}, (∀ x ∈ l, x.length ≤ 40) → (Lib.join l sep).length ≤ 41 * l.length
 | [], _ => by simp [Lib.join, List.intercalate]
 | [x], h => by
  have := h x (by simp)
  simp [Lib.join, List.intercalate, List.intersperse]
  omega
 | x :: y :: r, h => by
  have ih := join_le hs (l := y :: r) fun z hz => h z (by simp [List.mem_cons.1 hz])
  have hx := h x (by simp)
  have e : Lib.join (x :: y :: r) sep = x ++ sep ++ Lib.join (y :: r) sep := by simp [Lib.join, List.intercalate, List.intersperse]
  rw [e]
  simp only [List.length_append, List.length_cons] at ih ⊢
  omega
theorem joinS_size {xs : List ByteArray} (hx : ∀ x ∈ xs, x.size ≤ 40) : (Lib.join (xs.map (·.data.toList)) [32]).length ≤ 41 * xs.length := by
 have := join_le (sep := [32]) rfl (l := xs.map (·.data.toList)) fun x hx' => by
  obtain ⟨y, hy, rfl⟩ := List.mem_map.1 hx'
  exact hx y hy
 rw [List.length_map] at this
 exact this
theorem lineS_size {xs : List ByteArray} (hx : ∀ x ∈ xs, x.size ≤ 40) : (lineS xs).size ≤ 41 * xs.length + 1 := by
 have h := joinS_size hx
 have e : (lineS xs).size = (Lib.join (xs.map (·.data.toList)) [32]).length + 1 := by
  unfold lineS
  rw [ByteArray.size_append]; rfl
 omega
def cLine : Con := { args := [.val false (.list 9 .str)], ress := [tS], owns := [], pre := fun (xs, _) => [xs.length ≤ 100, ∀ x ∈ xs, x.size ≤ 40], spec := fun (xs, _) => (lineS xs, ()) }
theorem vc133 : ∀ (xs : List ByteArray), wpF Tryz.prog G125 (na ()) Tryz.f133 cLine (xs, ()) = (List.length xs ≤ 100 → (∀ (x : ByteArray), x ∈ xs → ByteArray.size x ≤ 40) → (List.length xs ≤ 1000000 ∧ List.length (Lib.join (List.map (fun (x : ByteArray) => x.data.toList) xs) [(32 : UInt8)]) ≤ 140737488355328 ∧ (↑(ByteArray.size (joinS xs (ByteArray.mk (Array.mk [(32 : UInt8)]))) + 1) : Int) ≤ 9223372036854775807) ∧ ByteArray.mk (Array.mk ((joinS xs (ByteArray.mk (Array.mk [(32 : UInt8)]))).data.toList ++ [(10 : UInt8)])) = lineS xs) := by
 intros
 kernel_rfl
theorem wp133 (xs : List ByteArray) : wpF Tryz.prog G125 (na ()) Tryz.f133 cLine (xs, ()) := by
 refine (vc133 xs).mpr ?_
 intro h1 h2
 have e := joinS_size h2
 have e2 : (joinS xs ⟨⟨[32]⟩⟩).size = (Lib.join (xs.map (·.data.toList)) [32]).length := rfl
 exact ⟨⟨by omega, Nat.le_trans e (by omega), by rw [e2]; omega⟩, rfl⟩
theorem ok133 : Ok Tryz.prog 133 cLine := ok_of_wp mixed g125 (by kernel_rfl) (by kernel_rfl) na fun xx => wp133 xx.1
abbrev G126 : Gam := (133, cLine) :: G125
theorem g126 : GamOk Tryz.prog G126 := .cons ok133 g125
def headL (c : Cab) : ByteArray := lineS [⟨#[99, 97, 98, 108, 101]⟩, itoaS c.2.2.1, itoaS c.2.2.2]
def jointL (n : Int) : ByteArray := lineS [⟨#[106, 111, 105, 110, 116]⟩, itoaS n]
def secL (x : Int × Int) : ByteArray := lineS [⟨#[115, 101, 99, 116, 105, 111, 110]⟩, itoaS x.1, itoaS x.2]
def outN (c : Cab) : Nat → ByteArray
 | 0 => headL c
 | k + 1 => (if k = 0 then outN c k else outN c k ++ jointL (c.2.1.getD (k - 1) 0)) ++ secL (c.1.getD k (0, 0))
def printS (c : Cab) : ByteArray := outN c c.1.length
theorem itoaS_size (n : Int) (h0 : -9223372036854775808 ≤ n) (h1 : n ≤ 9223372036854775807) : (itoaS n).size ≤ 40 := by
 have := Lib.itoa_length_le n h0 h1
 have e : (itoaS n).size = (Lib.itoa n).length := rfl
 omega
theorem fac_bd {c : Cab} (hv : cabV c) (k : Nat) : -8 ≤ c.2.1.getD k 0 ∧ c.2.1.getD k 0 ≤ 8 := by
 by_cases h : k < c.2.1.length
 ·exact hv.2.2.2.2.1 _ (getD_mem h)
 ·rw [List.getD_eq_getElem?_getD, List.getElem?_eq_none (by omega)]
  exact ⟨by decide, by decide⟩
theorem sec_bd {c : Cab} (hv : cabV c) (k : Nat) : (0 ≤ (c.1.getD k (0, 0)).1 ∧ (c.1.getD k (0, 0)).1 ≤ 100000) ∧ 0 ≤ (c.1.getD k (0, 0)).2 ∧ (c.1.getD k (0, 0)).2 ≤ 64 := by
 by_cases h : k < c.1.length
 ·have := hv.2.2.1 _ (getD_mem (d := (0, 0)) h)
  omega
 ·rw [List.getD_eq_getElem?_getD, List.getElem?_eq_none (by omega)]
  exact ⟨⟨by decide, by decide⟩, by decide, by decide⟩
theorem head_sm {c : Cab} (hv : cabV c) : ∀ x ∈ [(⟨#[99, 97, 98, 108, 101]⟩ : ByteArray), itoaS c.2.2.1, itoaS c.2.2.2], x.size ≤ 40 := by
 have h := hv.2.2.2.2.2
 intro x hx
 rcases List.mem_cons.1 hx with rfl | hx
 ·decide
 rcases List.mem_cons.1 hx with rfl | hx
 ·exact itoaS_size _ (by omega) (by omega)
 rcases List.mem_cons.1 hx with rfl | hx
 ·exact itoaS_size _ (by omega) (by omega)
 ·cases hx
theorem joint_sm {n : Int} (h : -8 ≤ n ∧ n ≤ 8) : ∀ x ∈ [(⟨#[106, 111, 105, 110, 116]⟩ : ByteArray), itoaS n], x.size ≤ 40 := by
 intro x hx
 rcases List.mem_cons.1 hx with rfl | hx
 ·decide
 rcases List.mem_cons.1 hx with rfl | hx
 ·exact itoaS_size _ (by omega) (by omega)
 ·cases hx
theorem sec_sm {p : Int × Int} (h : (0 ≤ p.1 ∧ p.1 ≤ 100000) ∧ 0 ≤ p.2 ∧ p.2 ≤ 64) : ∀ x ∈ [(⟨#[115, 101, 99, 116, 105, 111, 110]⟩ : ByteArray), itoaS p.1, itoaS p.2], x.size ≤ 40 := by
 intro x hx
 rcases List.mem_cons.1 hx with rfl | hx
 ·decide
 rcases List.mem_cons.1 hx with rfl | hx
 ·exact itoaS_size _ (by omega) (by omega)
 rcases List.mem_cons.1 hx with rfl | hx
 ·exact itoaS_size _ (by omega) (by omega)
 ·cases hx
theorem jointL_size {n : Int} (h : -8 ≤ n ∧ n ≤ 8) : (jointL n).size ≤ 83 := lineS_size (joint_sm h)
theorem secL_size {p : Int × Int} (h : (0 ≤ p.1 ∧ p.1 ≤ 100000) ∧ 0 ≤ p.2 ∧ p.2 ≤ 64) : (secL p).size ≤ 124 := lineS_size (sec_sm h)
theorem outN_size {c : Cab} (hv : cabV c) : ∀ k, (outN c k).size ≤ 124 + 207 * k
 | 0 => lineS_size (head_sm hv)
 | k + 1 => by
  have ih := outN_size hv k
  have h1 := secL_size (sec_bd hv k)
  have h2 := jointL_size (fac_bd hv (k - 1))
  unfold outN
  rw [ByteArray.size_append]
  split
  ·omega
  ·rw [ByteArray.size_append]; omega
abbrev annPrint (c : Cab) : Ann := { X := Nat, σ := fun k => ⟨3, [(1, .one (.ptr 2 0)), (5, .one (.str (outN c k))), (24, .one (.sl 0)), (25, .one (.int .i64 c.1.length)), (26, .one (.int .i64 k))], [(0, .imm 166 sPt c.1), (1, .imm 3 sI c.2.1), (2, .box 37 [.sl 0, .sl 1, .int .i64 c.2.2.1, .int .i64 c.2.2.2])]⟩, inv := fun k => k ≤ c.1.length, mu := fun k => c.1.length - k }
def cPrint : Con := { args := [aC], ress := [tS, I], owns := [], pre := fun (c, _) => [c.1.length ≤ 1000000, c.2.1.length ≤ 1000000], spec := fun (c, _) => (if cabS c = 0 then printS c else ⟨⟨[]⟩⟩, cabS c, ()) }
def vc76_0 (c : Cab) (x : Nat) := (lineS [ByteArray.mk (Array.mk [(115 : UInt8), (101 : UInt8), (99 : UInt8), (116 : UInt8), (105 : UInt8), (111 : UInt8), (110 : UInt8)]), itoaS (List.getD c.1 x ((0 : Int), (0 : Int))).1, itoaS (List.getD c.1 x ((0 : Int), (0 : Int))).2])
def vc76_1 (c : Cab) (x : Nat) := (lineS [ByteArray.mk (Array.mk [(106 : UInt8), (111 : UInt8), (105 : UInt8), (110 : UInt8), (116 : UInt8)]), itoaS (List.getD c.2.1 (Int.toNat ((↑x : Int) - (1 : Int))) (0 : Int))])
def vc76_2 (c : Cab) (x : Nat) := (List.getD c.1 x ((0 : Int), (0 : Int)))
theorem vc76 : ∀ (c : Cab), wpF Tryz.prog G126 (ann0 (annPrint c)) Tryz.f76 cPrint (c, ()) = (List.length c.1 ≤ 1000000 → List.length c.2.1 ≤ 1000000 → (List.length c.1 ≤ 1000000 ∧ List.length c.2.1 ≤ 1000000) ∧ ((cabS (c.1, c.2.1, c.2.2.1, c.2.2.2) != 0) = true → (ByteArray.mk (Array.mk []) = if cabS c = 0 then printS c else ByteArray.mk (Array.mk [])) ∧ cabS (c.1, c.2.1, c.2.2.1, c.2.2.2) = cabS c) ∧ ((cabS (c.1, c.2.1, c.2.2.1, c.2.2.2) != 0) = false → ((I64 c.2.2.1) ∧ (I64 c.2.2.2) ∧ 3 ≤ 100 ∧ ∀ (x : ByteArray), x ∈ [ByteArray.mk (Array.mk [(99 : UInt8), (97 : UInt8), (98 : UInt8), (108 : UInt8), (101 : UInt8)]), itoaS c.2.2.1, itoaS c.2.2.2] → ByteArray.size x ≤ 40) ∧ ∃ (x : Nat), (lineS [ByteArray.mk (Array.mk [(99 : UInt8), (97 : UInt8), (98 : UInt8), (108 : UInt8), (101 : UInt8)]), itoaS c.2.2.1, itoaS c.2.2.2] = outN c x ∧ (↑(List.length c.1) : Int) = (↑(List.length c.1) : Int) ∧ 0 = (↑x : Int) ∧ c.1 = c.1 ∧ c.2.1 = c.2.1 ∧ c.2.2.1 = c.2.2.1 ∧ c.2.2.2 = c.2.2.2) ∧ x ≤ List.length c.1 ∧ ∀ (x : Nat), x ≤ List.length c.1 → (decide ((↑x : Int) < (↑(List.length c.1) : Int)) = true → ((0 ≤ (↑x : Int) ∧ (↑x : Int) < (↑(List.length c.1) : Int)) ∧ 0 ≤ (↑x : Int) ∧ (↑x : Int) < (↑(List.length c.1) : Int)) ∧ (decide (0 < (↑x : Int)) = true → (((-9223372036854775808) ≤ (↑x : Int) - 1 ∧ (↑x : Int) - (1 : Int) ≤ 9223372036854775807) ∧ (0 ≤ (↑x : Int) - 1 ∧ (↑x : Int) - 1 < (↑(List.length c.2.1) : Int)) ∧ (0 ≤ (↑x : Int) - 1 ∧ (↑x : Int) - 1 < (↑(List.length c.2.1) : Int)) ∧ ((-9223372036854775808) ≤ List.getD c.2.1 (Int.toNat ((↑x : Int) - 1)) 0 ∧ List.getD c.2.1 (Int.toNat ((↑x : Int) - 1)) (0 : Int) ≤ 9223372036854775807) ∧ 2 ≤ 100 ∧ (∀ (x_1 : ByteArray), x_1 ∈ [ByteArray.mk (Array.mk [(106 : UInt8), (111 : UInt8), (105 : UInt8), (110 : UInt8), (116 : UInt8)]), itoaS (List.getD c.2.1 (Int.toNat ((↑x : Int) - 1)) 0)] → ByteArray.size x_1 ≤ 40) ∧ (↑(ByteArray.size (outN c x) + ByteArray.size (vc76_1 c x)) : Int) ≤ 9223372036854775807) ∧ ((I64 ((vc76_2 c x).1)) ∧ (I64 ((vc76_2 c x).2)) ∧ 3 ≤ 100 ∧ (∀ (x_1 : ByteArray), x_1 ∈ [ByteArray.mk (Array.mk [(115 : UInt8), (101 : UInt8), (99 : UInt8), (116 : UInt8), (105 : UInt8), (111 : UInt8), (110 : UInt8)]), itoaS (vc76_2 c x).1, itoaS (vc76_2 c x).2] → ByteArray.size x_1 ≤ 40) ∧ (↑(ByteArray.size (ByteArray.mk (Array.mk ((outN c x).data.toList ++ (vc76_1 c x).data.toList))) + ByteArray.size (vc76_0 c x)) : Int) ≤ 9223372036854775807) ∧ ((-9223372036854775808) ≤ (↑x : Int) + 1 ∧ (↑x : Int) + (1 : Int) ≤ 9223372036854775807) ∧ ∃ (y : Nat), (ByteArray.mk (Array.mk ((Array.mk ((outN c x).data.toList ++ (vc76_1 c x).data.toList)).toList ++ (vc76_0 c x).data.toList)) = outN c y ∧ (↑(List.length c.1) : Int) = (↑(List.length c.1) : Int) ∧ (↑x : Int) + 1 = (↑y : Int) ∧ c.1 = c.1 ∧ c.2.1 = c.2.1 ∧ c.2.2.1 = c.2.2.1 ∧ c.2.2.2 = c.2.2.2) ∧ y ≤ List.length c.1 ∧ List.length c.1 - y < List.length c.1 - x) ∧ (decide (0 < (↑x : Int)) = false → ((I64 ((vc76_2 c x).1)) ∧ (I64 ((vc76_2 c x).2)) ∧ 3 ≤ 100 ∧ (∀ (x_1 : ByteArray), x_1 ∈ [ByteArray.mk (Array.mk [(115 : UInt8), (101 : UInt8), (99 : UInt8), (116 : UInt8), (105 : UInt8), (111 : UInt8), (110 : UInt8)]), itoaS (vc76_2 c x).1, itoaS (vc76_2 c x).2] → ByteArray.size x_1 ≤ 40) ∧ (↑(ByteArray.size (outN c x) + ByteArray.size (vc76_0 c x)) : Int) ≤ 9223372036854775807) ∧ ((-9223372036854775808) ≤ (↑x : Int) + 1 ∧ (↑x : Int) + (1 : Int) ≤ 9223372036854775807) ∧ ∃ (y : Nat), (ByteArray.mk (Array.mk ((outN c x).data.toList ++ (vc76_0 c x).data.toList)) = outN c y ∧ (↑(List.length c.1) : Int) = (↑(List.length c.1) : Int) ∧ (↑x : Int) + 1 = (↑y : Int) ∧ c.1 = c.1 ∧ c.2.1 = c.2.1 ∧ c.2.2.1 = c.2.2.1 ∧ c.2.2.2 = c.2.2.2) ∧ y ≤ List.length c.1 ∧ List.length c.1 - y < List.length c.1 - x)) ∧ (decide ((↑x : Int) < (↑(List.length c.1) : Int)) = false → (outN c x = if cabS c = 0 then printS c else ByteArray.mk (Array.mk [])) ∧ 0 = cabS c))) := by
 intros
 kernel_rfl
theorem wp76 (c : Cab) : wpF Tryz.prog G126 (ann0 (annPrint c)) Tryz.f76 cPrint (c, ()) := by
 refine (vc76 c).mpr ?_
 delta vc76_0 vc76_1 vc76_2
 delta I64
 intro h1 h2
 refine ⟨⟨h1, h2⟩, fun h => ?_, fun h => ?_⟩
 ·have h : ¬ cabS c = 0 := bne_iff_ne.1 h
  rw [if_neg h]; exact ⟨rfl, rfl⟩
 have hc : cabS c = 0 := bne_eq_false_iff_eq.1 h
 have hv : cabV c := cabS_V hc
 have he := hv.2.2.2.2.2
 have hl := hv.2.1
 have hl2 := hv.2.2.2.1
 refine ⟨⟨by omega, by omega, by omega, head_sm hv⟩, (0 : Nat), ⟨rfl, rfl, rfl, rfl, rfl, rfl, rfl⟩, Nat.zero_le _, fun (k : Nat) hk => ⟨fun h => ?_, fun h => ?_⟩⟩
 ·have hlt : k < c.1.length := by simpa using h
  have b1 := sec_bd hv k
  have s0 := outN_size hv k
  have s1 := secL_size b1
  refine ⟨by omega, fun h3 => ?_, fun h3 => ?_⟩
  ·have h3 : 0 < k := by simpa using h3
   have ek : ((k : Int) - 1).toNat = k - 1 := by omega
   rw [ek]
   have b2 := fac_bd hv (k - 1)
   have s2 := jointL_size b2
   have s3 : (outN c k ++ jointL (c.2.1.getD (k - 1) 0)).size = (outN c k).size + (jointL (c.2.1.getD (k - 1) 0)).size := ByteArray.size_append
   refine ⟨⟨by omega, by omega, by omega, by omega, by omega, joint_sm b2, ?_⟩, ⟨by omega, by omega, by omega, sec_sm b1, ?_⟩, by omega, (k + 1 : Nat), ⟨?_, rfl, by simp, rfl, rfl, rfl, rfl⟩, by omega, by omega⟩
   ·show (((outN c k).size + (jointL (c.2.1.getD (k - 1) 0)).size : Nat) : Int) ≤ _
    omega
   ·show (((outN c k ++ jointL (c.2.1.getD (k - 1) 0)).size + (secL (c.1.getD k (0, 0))).size : Nat) : Int) ≤ _
    omega
   ·have eo : outN c (k + 1) = (outN c k ++ jointL (c.2.1.getD (k - 1) 0)) ++ secL (c.1.getD k (0, 0)) := by rw [outN, if_neg (by omega)]
    rw [eo]
    apply ByteArray.ext
    apply Array.ext'
    simp only [ByteArray.data_append, Array.toList_append]
    rfl
  ·have h3 : ¬ 0 < k := by simpa using h3
   have h0 : k = 0 := by omega
   refine ⟨⟨by omega, by omega, by omega, sec_sm b1, ?_⟩, by omega, (k + 1 : Nat), ⟨?_, rfl, by simp, rfl, rfl, rfl, rfl⟩, by omega, by omega⟩
   ·show (((outN c k).size + (secL (c.1.getD k (0, 0))).size : Nat) : Int) ≤ _
    omega
   ·have eo : outN c (k + 1) = outN c k ++ secL (c.1.getD k (0, 0)) := by rw [outN, if_pos h0]
    rw [eo]
    apply ByteArray.ext
    apply Array.ext'
    simp only [ByteArray.data_append, Array.toList_append]
    rfl
 ·have hlt : ¬ k < c.1.length := by simpa using h
  have : k = c.1.length := by omega
  subst this
  rw [if_pos hc]
  exact ⟨rfl, hc.symm⟩
theorem ok76 : Ok Tryz.prog 76 cPrint := ok_of_wp mixed g126 (by kernel_rfl) (by kernel_rfl) (fun xx => ann0 (annPrint xx.1)) fun xx => wp76 xx.1
abbrev G127 : Gam := (76, cPrint) :: G126
theorem g127 : GamOk Tryz.prog G127 := .cons ok76 g126
set_option maxHeartbeats 20000000
def cAwake : Con := { args := [], ress := [Bo], owns := [], pre := fun _ => [], spec := fun _ => (true, ()) }
def vc16_0 := (lineC.1, lineC.2.1, lineC.2.2.1, lineC.2.2.2)
def vc16_1 := (faultC.1, faultC.2.1, faultC.2.2.1, faultC.2.2.2)
def vc16_2 := (ByteArray.mk (Array.mk [(65 : UInt8)]))
def vc16_3 := ((2 : Nat) ≤ (1000000 : Nat) ∧ (1 : Nat) ≤ (1000000 : Nat))
def vc16_4 := (((3145728 : Int), (3145728 : Int)), (2 : Int), (5505024 : Int), (10 : Int))
def vc16_5 := (ByteArray.mk (Array.mk [(66 : UInt8)]))
def vc16_6 := (((0 : Int), (1 : Int)), (12 : Int), (15 : Int), ByteArray.mk (Array.mk [(65 : UInt8)]))
theorem vc16 : wpF Tryz.prog G127 (na ()) Tryz.f16 cAwake () = (vc16_3 ∧ vc16_3 ∧ vc16_3 ∧ vc16_3 ∧ vc16_3 ∧ vc16_3 ∧ vc16_3 ∧ vc16_3 ∧ vc16_3 ∧ vc16_3 ∧ (((-9223372036854775808) ≤ cabS vc16_0 + placeE vc16_0 6 ∧ cabS vc16_0 + placeE vc16_0 (6 : Int) ≤ 9223372036854775807) ∧ ((-9223372036854775808) ≤ cabS vc16_0 + placeE vc16_0 6 + winS vc16_0 vc16_1 10 ∧ cabS vc16_0 + placeE vc16_0 6 + winS vc16_0 vc16_1 (10 : Int) ≤ 9223372036854775807) ∧ ((-9223372036854775808) ≤ cabS vc16_0 + placeE vc16_0 6 + winS vc16_0 vc16_1 10 + winS vc16_0 vc16_1 10 ∧ cabS vc16_0 + placeE vc16_0 6 + winS vc16_0 vc16_1 10 + winS vc16_0 vc16_1 (10 : Int) ≤ 9223372036854775807) ∧ (I64 (cabS vc16_0 + placeE vc16_0 6 + winS vc16_0 vc16_1 10 + winS vc16_0 vc16_1 10 + dirEE vc16_0 vc16_1 vc16_5)) ∧ (I64 (cabS vc16_0 + placeE vc16_0 6 + winS vc16_0 vc16_1 10 + winS vc16_0 vc16_1 10 + dirEE vc16_0 vc16_1 vc16_5 + factorE vc16_0 0 vc16_5)) ∧ (I64 (cabS vc16_0 + placeE vc16_0 6 + winS vc16_0 vc16_1 10 + winS vc16_0 vc16_1 10 + dirEE vc16_0 vc16_1 vc16_5 + factorE vc16_0 0 vc16_5 + factorE vc16_0 1 vc16_2)) ∧ (I64 (cabS vc16_0 + placeE vc16_0 6 + winS vc16_0 vc16_1 10 + winS vc16_0 vc16_1 10 + dirEE vc16_0 vc16_1 vc16_5 + factorE vc16_0 0 vc16_5 + factorE vc16_0 1 vc16_2 + thEE vc16_0 vc16_6)) ∧ I64 (cabS vc16_0 + placeE vc16_0 6 + winS vc16_0 vc16_1 10 + winS vc16_0 vc16_1 10 + dirEE vc16_0 vc16_1 vc16_5 + factorE vc16_0 0 vc16_5 + factorE vc16_0 1 vc16_2 + thEE vc16_0 vc16_6 + locE vc16_0 (100, 102) (109, 109))) ∧ (false = true → false = true) ∧ (false = false → (((0 : Int) ≤ 2 ∧ (2 : Int) < 6) ∧ ((0 : Int) ≤ 2 ∧ (2 : Int) < 6) ∧ (false = false → (0 : Int) ≤ 4 ∧ (4 : Int) < 6) ∧ (false = false → (0 : Int) ≤ 4 ∧ (4 : Int) < 6) ∧ (false = false → (0 : Int) ≤ 5 ∧ (5 : Int) < 6) ∧ (false = false → (0 : Int) ≤ 5 ∧ (5 : Int) < 6) ∧ (false = false → 4 ≤ 1000000) ∧ (false = false → 4 ≤ 1000000)) ∧ (false = true → false = true) ∧ (false = false → 4 ≤ 1000000 ∧ 4 ≤ 1000000 ∧ vc16_3 ∧ vc16_3 ∧ vc16_3 ∧ vc16_3 ∧ vc16_3 ∧ ((I64 (opnEE (arrP vc16_0 vc16_1 10) vc16_2 105 5505024 10 + clrEE vc16_0 vc16_1 vc16_4)) ∧ ((-9223372036854775808) ≤ opnEE (arrP vc16_0 vc16_1 10) vc16_2 105 5505024 10 + clrEE vc16_0 vc16_1 vc16_4 + rcEE vc16_0 vc16_1 vc16_2 8 ∧ opnEE (arrP vc16_0 vc16_1 10) vc16_2 105 5505024 10 + clrEE vc16_0 vc16_1 vc16_4 + rcEE vc16_0 vc16_1 vc16_2 (8 : Int) ≤ 9223372036854775807) ∧ (I64 (opnEE (arrP vc16_0 vc16_1 10) vc16_2 105 5505024 10 + clrEE vc16_0 vc16_1 vc16_4 + rcEE vc16_0 vc16_1 vc16_2 8 + fltS vc16_0 vc16_1)) ∧ ((-9223372036854775808) ≤ opnEE (arrP vc16_0 vc16_1 10) vc16_2 105 5505024 10 + clrEE vc16_0 vc16_1 vc16_4 + rcEE vc16_0 vc16_1 vc16_2 8 + fltS vc16_0 vc16_1 + splEE vc16_0 1 2 ∧ opnEE (arrP vc16_0 vc16_1 10) vc16_2 105 5505024 10 + clrEE vc16_0 vc16_1 vc16_4 + rcEE vc16_0 vc16_1 vc16_2 8 + fltS vc16_0 vc16_1 + splEE vc16_0 1 (2 : Int) ≤ 9223372036854775807) ∧ (I64 (opnEE (arrP vc16_0 vc16_1 10) vc16_2 105 5505024 10 + clrEE vc16_0 vc16_1 vc16_4 + rcEE vc16_0 vc16_1 vc16_2 8 + fltS vc16_0 vc16_1 + splEE vc16_0 1 2 + cabS vc16_0)) ∧ (true = true → 9 ≤ 1000000) ∧ (true = true → 2 ≤ 1000000)) ∧ true = true))) := by
 intros
 kernel_rfl
theorem wp16  : wpF Tryz.prog G127 (na ()) Tryz.f16 cAwake () := by
 refine vc16.mpr ?_
 delta vc16_0 vc16_1 vc16_2 vc16_3 vc16_4 vc16_5 vc16_6
 delta I64
 repeat' first
  | refine And.intro ?_ ?_
  | exact fun h => Bool.noConfusion h
  | intro _
 all_goals first
  | rfl
  | exact of_decide_eq_true (by kernel_rfl)
theorem ok16 : Ok Tryz.prog 16 cAwake := ok_of_wp mixed g127 (by kernel_rfl) (by kernel_rfl) na fun xx => wp16 
abbrev G128 : Gam := (16, cAwake) :: G127
theorem g128 : GamOk Tryz.prog G128 := .cons ok16 g127
set_option maxHeartbeats 20000000
theorem short_len {c : Cab} (h : (bif false then true else !shortS c) = false) : c.1.length ≤ 7 ∧ c.2.1.length ≤ 8 := by
 have h : shortS c = true := by simpa using h
 unfold shortS at h
 simpa using h
theorem eqz {n : Int} : (n == 0) = true ↔ n = 0 := beq_iff_eq
theorem bnT {b c : Bool} : (bif b then true else c) = false ↔ b = false ∧ c = false := by cases b <;> simp
set_option maxHeartbeats 20000000
abbrev tI : Bool × Sch := (false, .int .i64)
abbrev tB : Bool × Sch := (false, .bool)
abbrev tStr : Bool × Sch := (false, .str)
abbrev tSs : Bool × Sch := (false, .list 9 .str)
abbrev taU : AK := .val false (.int .u8)
abbrev taS : AK := .val false .str
def isDig (c : Int) : Bool := decide (48 ≤ c) && decide (c ≤ 57)
abbrev G129 : Gam := G128
theorem g129 : GamOk Tryz.prog G129 := g128
def digFrom : List UInt8 → Int → Int × Bool
 | [], n => (n, true)
 | c :: r, n => if isDig c.toNat = true then digFrom r (10 * n + (c.toNat - 48)) else (0, false)
theorem dig_rng {c : Nat} (h : isDig c = true) : 48 ≤ c ∧ c ≤ 57 := by
 unfold isDig at h
 simp only [Bool.and_eq_true, decide_eq_true_eq] at h
 omega
abbrev G130 : Gam := G129
theorem g130 : GamOk Tryz.prog G130 := g129
abbrev G131 : Gam := G130
theorem g131 : GamOk Tryz.prog G131 := g130
def hasPre (s p : ByteArray) : Bool := decide (p.size ≤ s.size) && ((s.extract 0 p.size).toList == p.toList)
def hasSuf (s p : ByteArray) : Bool := decide (p.size ≤ s.size) && ((s.extract (s.size - p.size) s.size).toList == p.toList)
theorem hasPre_le {s p : ByteArray} (h : hasPre s p = true) : p.size ≤ s.size := by
 unfold hasPre at h
 simp only [Bool.and_eq_true, decide_eq_true_eq] at h
 exact h.1
theorem hasSuf_le {s p : ByteArray} (h : hasSuf s p = true) : p.size ≤ s.size := by
 unfold hasSuf at h
 simp only [Bool.and_eq_true, decide_eq_true_eq] at h
 exact h.1
def cHasPre : Con := { args := [taS, taS], ress := [tB], owns := [], pre := fun (s, p, _) => [s.size ≤ 1000000, p.size ≤ 1000000], spec := fun (s, p, _) => (hasPre s p, ()) }
theorem vc248 : ∀ (s p : ByteArray), wpF Tryz.prog G131 (na ()) Tryz.f248 cHasPre (s, p, ()) = (ByteArray.size s ≤ 1000000 → ByteArray.size p ≤ 1000000 → (decide ((↑(ByteArray.size p) : Int) ≤ (↑(ByteArray.size s) : Int)) = true → (0 : Int) ≤ 0 ∧ 0 ≤ (↑(ByteArray.size p) : Int) ∧ (↑(ByteArray.size p) : Int) ≤ (↑(ByteArray.size s) : Int)) ∧ (bif decide ((↑(ByteArray.size p) : Int) ≤ (↑(ByteArray.size s) : Int)) then ByteArray.toList (ByteArray.extract s 0 (ByteArray.size p)) == ByteArray.toList p else false) = hasPre s p) := by
 intros
 kernel_rfl
theorem wp248 (s p : ByteArray) : wpF Tryz.prog G131 (na ()) Tryz.f248 cHasPre (s, p, ()) := by
 refine (vc248 s p).mpr ?_
 intro h1 h2
 refine ⟨fun h => ⟨Int.le_refl _, by omega, by simpa using h⟩, ?_⟩
 have e3 : decide ((p.size : Int) ≤ (s.size : Int)) = decide (p.size ≤ s.size) := by rw [decide_eq_decide]; omega
 unfold hasPre
 rw [e3]; cases decide (p.size ≤ s.size) <;> rfl
theorem ok248 : Ok Tryz.prog 248 cHasPre := ok_of_wp mixed g131 (by kernel_rfl) (by kernel_rfl) na fun xx => wp248 xx.1 xx.2.1
abbrev G132 : Gam := (248, cHasPre) :: G131
theorem g132 : GamOk Tryz.prog G132 := .cons ok248 g131
def trimP (s p : ByteArray) : ByteArray := if hasPre s p = true then s.extract p.size s.size else s
def cTrimP : Con := { args := [taS, taS], ress := [tStr], owns := [], pre := fun (s, p, _) => [s.size ≤ 1000000, p.size ≤ 1000000], spec := fun (s, p, _) => (trimP s p, ()) }
theorem vc226 : ∀ (s p : ByteArray), wpF Tryz.prog G132 (na ()) Tryz.f226 cTrimP (s, p, ()) = (ByteArray.size s ≤ 1000000 → ByteArray.size p ≤ 1000000 → (ByteArray.size s ≤ 1000000 ∧ ByteArray.size p ≤ 1000000) ∧ (hasPre s p = true → (0 ≤ (↑(ByteArray.size p) : Int) ∧ (↑(ByteArray.size p) : Int) ≤ (↑(ByteArray.size s) : Int) ∧ (↑(ByteArray.size s) : Int) ≤ (↑(ByteArray.size s) : Int)) ∧ ByteArray.extract s (ByteArray.size p) (ByteArray.size s) = trimP s p) ∧ (hasPre s p = false → s = trimP s p)) := by
 intros
 kernel_rfl
theorem wp226 (s p : ByteArray) : wpF Tryz.prog G132 (na ()) Tryz.f226 cTrimP (s, p, ()) := by
 refine (vc226 s p).mpr ?_
 intro h1 h2
 refine ⟨⟨h1, h2⟩, fun h => ⟨⟨by omega, by have := hasPre_le h; omega, Int.le_refl _⟩, by unfold trimP; rw [if_pos h]⟩, fun h => by unfold trimP; rw [h]; rfl⟩
theorem ok226 : Ok Tryz.prog 226 cTrimP := ok_of_wp mixed g132 (by kernel_rfl) (by kernel_rfl) na fun xx => wp226 xx.1 xx.2.1
abbrev G133 : Gam := (226, cTrimP) :: G132
theorem g133 : GamOk Tryz.prog G133 := .cons ok226 g132
theorem vc195 : ∀ (s p : ByteArray), wpF Tryz.prog G133 (na ()) Tryz.f195 cTrimP (s, p, ()) = (ByteArray.size s ≤ 1000000 → ByteArray.size p ≤ 1000000 → (ByteArray.size s ≤ 1000000 ∧ ByteArray.size p ≤ 1000000) ∧ trimP s p = trimP s p) := by
 intros
 kernel_rfl
theorem wp195 (s p : ByteArray) : wpF Tryz.prog G133 (na ()) Tryz.f195 cTrimP (s, p, ()) := by
 refine (vc195 s p).mpr ?_
 exact fun h1 h2 => ⟨⟨h1, h2⟩, rfl⟩
theorem ok195 : Ok Tryz.prog 195 cTrimP := ok_of_wp mixed g133 (by kernel_rfl) (by kernel_rfl) na fun xx => wp195 xx.1 xx.2.1
abbrev G134 : Gam := (195, cTrimP) :: G133
theorem g134 : GamOk Tryz.prog G134 := .cons ok195 g133
def cHasSuf : Con := { args := [taS, taS], ress := [tB], owns := [], pre := fun (s, p, _) => [s.size ≤ 1000000, p.size ≤ 1000000], spec := fun (s, p, _) => (hasSuf s p, ()) }
theorem vc197 : ∀ (s p : ByteArray), wpF Tryz.prog G134 (na ()) Tryz.f197 cHasSuf (s, p, ()) = (ByteArray.size s ≤ 1000000 → ByteArray.size p ≤ 1000000 → ((decide ((↑(ByteArray.size p) : Int) ≤ (↑(ByteArray.size s) : Int)) = true → I64 ((↑(ByteArray.size s) : Int) - (↑(ByteArray.size p) : Int))) ∧ (decide ((↑(ByteArray.size p) : Int) ≤ (↑(ByteArray.size s) : Int)) = true → 0 ≤ (↑(ByteArray.size s) : Int) - (↑(ByteArray.size p) : Int) ∧ (↑(ByteArray.size s) : Int) - (↑(ByteArray.size p) : Int) ≤ (↑(ByteArray.size s) : Int) ∧ (↑(ByteArray.size s) : Int) ≤ (↑(ByteArray.size s) : Int))) ∧ (bif decide ((↑(ByteArray.size p) : Int) ≤ (↑(ByteArray.size s) : Int)) then ByteArray.toList (ByteArray.extract s (Int.toNat ((↑(ByteArray.size s) : Int) - (↑(ByteArray.size p) : Int))) (ByteArray.size s)) == ByteArray.toList p else false) = hasSuf s p) := by
 intros
 kernel_rfl
theorem wp197 (s p : ByteArray) : wpF Tryz.prog G134 (na ()) Tryz.f197 cHasSuf (s, p, ()) := by
  refine (vc197 s p).mpr ?_
  delta I64
  intro h1 h2
  refine ⟨⟨fun h => by omega, fun h => by have : (p.size : Int) ≤ s.size := by simpa using h
                                          omega⟩, ?_⟩
  have e3 : decide ((p.size : Int) ≤ (s.size : Int)) = decide (p.size ≤ s.size) := by rw [decide_eq_decide]; omega
  have e4 : ((s.size : Int) - (p.size : Int)).toNat = s.size - p.size := by omega
  unfold hasSuf
  rw [e3, e4]; cases decide (p.size ≤ s.size) <;> rfl
theorem ok197 : Ok Tryz.prog 197 cHasSuf := ok_of_wp mixed g134 (by kernel_rfl) (by kernel_rfl) na fun xx => wp197 xx.1 xx.2.1
abbrev G135 : Gam := (197, cHasSuf) :: G134
theorem g135 : GamOk Tryz.prog G135 := .cons ok197 g134
def cutSuf (s p : ByteArray) : ByteArray := if hasSuf s p = true then s.extract 0 (s.size - p.size) else s
def cCutSuf : Con := { args := [taS, taS], ress := [tStr, tB], owns := [], pre := fun (s, p, _) => [s.size ≤ 1000000, p.size ≤ 1000000], spec := fun (s, p, _) => (cutSuf s p, hasSuf s p, ()) }
theorem vc170 : ∀ (s p : ByteArray), wpF Tryz.prog G135 (na ()) Tryz.f170 cCutSuf (s, p, ()) = (ByteArray.size s ≤ 1000000 → ByteArray.size p ≤ 1000000 → (ByteArray.size s ≤ 1000000 ∧ ByteArray.size p ≤ 1000000) ∧ ((!hasSuf s p) = true → s = cutSuf s p ∧ false = hasSuf s p) ∧ ((!hasSuf s p) = false → ((I64 ((↑(ByteArray.size s) : Int) - (↑(ByteArray.size p) : Int))) ∧ (0 : Int) ≤ 0 ∧ 0 ≤ (↑(ByteArray.size s) : Int) - (↑(ByteArray.size p) : Int) ∧ (↑(ByteArray.size s) : Int) - (↑(ByteArray.size p) : Int) ≤ (↑(ByteArray.size s) : Int)) ∧ ByteArray.extract s 0 (Int.toNat ((↑(ByteArray.size s) : Int) - (↑(ByteArray.size p) : Int))) = cutSuf s p ∧ true = hasSuf s p)) := by
 intros
 kernel_rfl
theorem wp170 (s p : ByteArray) : wpF Tryz.prog G135 (na ()) Tryz.f170 cCutSuf (s, p, ()) := by
 refine (vc170 s p).mpr ?_
 delta I64
 intro h1 h2
 refine ⟨⟨h1, h2⟩, fun h => ?_, fun h => ?_⟩
 ·have h : hasSuf s p = false := by simpa using h
  unfold cutSuf; rw [h]; exact ⟨rfl, rfl⟩
 ·have h : hasSuf s p = true := by simpa using h
  have hl := hasSuf_le h
  have e4 : ((s.size : Int) - (p.size : Int)).toNat = s.size - p.size := by omega
  unfold cutSuf; rw [h, e4]; exact ⟨by omega, rfl, rfl⟩
theorem ok170 : Ok Tryz.prog 170 cCutSuf := ok_of_wp mixed g135 (by kernel_rfl) (by kernel_rfl) na fun xx => wp170 xx.1 xx.2.1
abbrev G136 : Gam := (170, cCutSuf) :: G135
theorem g136 : GamOk Tryz.prog G136 := .cons ok170 g135
theorem vc137 : ∀ (s p : ByteArray), wpF Tryz.prog G136 (na ()) Tryz.f137 cCutSuf (s, p, ()) = (ByteArray.size s ≤ 1000000 → ByteArray.size p ≤ 1000000 → (ByteArray.size s ≤ 1000000 ∧ ByteArray.size p ≤ 1000000) ∧ cutSuf s p = cutSuf s p ∧ hasSuf s p = hasSuf s p) := by
 intros
 kernel_rfl
theorem wp137 (s p : ByteArray) : wpF Tryz.prog G136 (na ()) Tryz.f137 cCutSuf (s, p, ()) := by
 refine (vc137 s p).mpr ?_
 exact fun h1 h2 => ⟨⟨h1, h2⟩, rfl, rfl⟩
theorem ok137 : Ok Tryz.prog 137 cCutSuf := ok_of_wp mixed g136 (by kernel_rfl) (by kernel_rfl) na fun xx => wp137 xx.1 xx.2.1
abbrev G137 : Gam := (137, cCutSuf) :: G136
theorem g137 : GamOk Tryz.prog G137 := .cons ok137 g136
def splB (c : UInt8) : List UInt8 → List (List UInt8)
 | [] => [[]]
 | x :: r => if x = c then [] :: splB c r else match splB c r with
  | [] => [[x]]
  | h :: t => (x :: h) :: t
def bs (l : List UInt8) : ByteArray := ⟨l.toArray⟩
def splitF (s : ByteArray) (c : Int) : List ByteArray := (splB (UInt8.ofNat c.toNat) s.data.toList).map bs
def glue (o : List ByteArray) : List (List UInt8) → List ByteArray
 | [] => o
 | h :: t => o.dropLast ++ bs ((o.getLastD ByteArray.empty).data.toList ++ h) :: t.map bs
theorem splB_ne (c : UInt8) : ∀ l, splB c l ≠ []
 | [] => by simp [splB]
 | x :: r => by
  unfold splB
  split
  ·simp
  ·split <;> simp
theorem splB_cons (c x : UInt8) (r : List UInt8) : splB c (x :: r) = if x = c then [] :: splB c r else match splB c r with
  | [] => [[x]]
  | h :: t => (x :: h) :: t := rfl
theorem glue_new (d : List ByteArray) (a : ByteArray) (t : List (List UInt8)) (ht : t ≠ []) : glue (d ++ [a] ++ [bs []]) t = glue (d ++ [a]) ([] :: t) := by
 cases t with
 | nil => exact absurd rfl ht
 | cons h t =>
  simp only [glue, List.dropLast_concat, List.getLastD_concat]
  simp [bs]
theorem glue_more (d : List ByteArray) (a : ByteArray) (x : UInt8) (h : List UInt8) (t : List (List UInt8)) : glue (d ++ [bs (a.data.toList ++ [x])]) (h :: t) = glue (d ++ [a]) ((x :: h) :: t) := by
 simp only [glue, List.dropLast_concat, List.getLastD_concat]
 simp [bs]
theorem glue_end (d : List ByteArray) (a : ByteArray) : glue (d ++ [a]) [[]] = d ++ [a] := by
 simp only [glue, List.dropLast_concat, List.getLastD_concat]
 simp [bs]
theorem extract_one {s : ByteArray} {j : Nat} (h : j < s.size) : (s.extract j (j + 1)).data.toList = [s.data.toList.getD j 0] := by
 have hl : j < s.data.toList.length := by simpa using h
 rw [ByteArray.data_extract, Array.toList_extract, List.extract_eq_take_drop, List.drop_eq_getElem_cons hl, List.getD_eq_getElem?_getD, List.getElem?_eq_getElem hl]
 simp
def cSplitR : Con := { args := [taS, taU], ress := [tSs], owns := [], pre := fun (s, c, _) => [s.size ≤ 1000000, 0 ≤ c, c < 256], spec := fun (s, c, _) => (splitF s c, ()) }
abbrev annSplitR (s : ByteArray) (c : Int) : Ann := { X := List ByteArray × Int, σ := fun p => ⟨1, [(0, .one (.str s)), (1, .one (.int .u8 c)), (5, .one (.sl 0)), (6, .one (.int .i64 p.2))], [(0, .own 9 .str p.1)]⟩, inv := fun p => p.1 ≠ [] ∧ p.1.length ≤ p.2.toNat + 1 ∧ (∀ a ∈ p.1, a.size ≤ p.2.toNat) ∧ 0 ≤ p.2 ∧ p.2 ≤ s.size ∧ glue p.1 (splB (UInt8.ofNat c.toNat) (s.data.toList.drop p.2.toNat)) = splitF s c, mu := fun p => s.size - p.2.toNat }
def vc80_0 (s : ByteArray) (c : Int) (x : List ByteArray × Int) := ((0 : Int) ≤ (↑(List.length x.1) : Int) - (1 : Int) ∧ (↑(List.length x.1) : Int) - (1 : Int) < (↑(List.length x.1) : Int))
theorem vc80 : ∀ (s : ByteArray) (c : Int), wpF Tryz.prog G137 (ann0 (annSplitR s c)) Tryz.f80 cSplitR (s, c, ()) = (ByteArray.size s ≤ 1000000 → 0 ≤ c → c < 256 → ∃ (x : List ByteArray × Int), (s = s ∧ c = c ∧ 0 = x.2 ∧ [ByteArray.mk (Array.mk [])] = x.1) ∧ ((x.1 = [] → False) ∧ List.length x.1 ≤ Int.toNat x.2 + 1 ∧ (∀ (a : ByteArray), a ∈ x.1 → ByteArray.size a ≤ Int.toNat x.2) ∧ 0 ≤ x.2 ∧ x.2 ≤ (↑(ByteArray.size s) : Int) ∧ glue x.1 (splB (UInt8.ofNat (Int.toNat c)) (List.drop (Int.toNat x.2) s.data.toList)) = splitF s c) ∧ ∀ (x : List ByteArray × Int), (x.1 = [] → False) ∧ List.length x.1 ≤ Int.toNat x.2 + 1 ∧ (∀ (a : ByteArray), a ∈ x.1 → ByteArray.size a ≤ Int.toNat x.2) ∧ 0 ≤ x.2 ∧ x.2 ≤ (↑(ByteArray.size s) : Int) ∧ glue x.1 (splB (UInt8.ofNat (Int.toNat c)) (List.drop (Int.toNat x.2) s.data.toList)) = splitF s c → (decide (x.2 < (↑(ByteArray.size s) : Int)) = true → (0 ≤ x.2 ∧ x.2 < (↑(ByteArray.size s) : Int)) ∧ (((↑(UInt8.toNat (List.getD s.data.toList (Int.toNat x.2) (0 : UInt8))) : Int) == c) = true → (List.length x.1 + 1) * 16 ≤ 140737488355328 ∧ ((-9223372036854775808) ≤ x.2 + 1 ∧ x.2 + (1 : Int) ≤ 9223372036854775807) ∧ ∃ (y : List ByteArray × Int), (s = s ∧ c = c ∧ x.2 + 1 = y.2 ∧ x.1 ++ [ByteArray.mk (Array.mk [])] = y.1) ∧ ((y.1 = [] → False) ∧ List.length y.1 ≤ Int.toNat y.2 + 1 ∧ (∀ (a : ByteArray), a ∈ y.1 → ByteArray.size a ≤ Int.toNat y.2) ∧ 0 ≤ y.2 ∧ y.2 ≤ (↑(ByteArray.size s) : Int) ∧ glue y.1 (splB (UInt8.ofNat (Int.toNat c)) (List.drop (Int.toNat y.2) s.data.toList)) = splitF s c) ∧ ByteArray.size s - Int.toNat y.2 < ByteArray.size s - Int.toNat x.2) ∧ (((↑(UInt8.toNat (List.getD s.data.toList (Int.toNat x.2) (0 : UInt8))) : Int) == c) = false → (((-9223372036854775808) ≤ (↑(List.length x.1) : Int) - 1 ∧ (↑(List.length x.1) : Int) - (1 : Int) ≤ 9223372036854775807) ∧ ((-9223372036854775808) ≤ (↑(List.length x.1) : Int) - 1 ∧ (↑(List.length x.1) : Int) - (1 : Int) ≤ 9223372036854775807) ∧ (vc80_0 s c x) ∧ (vc80_0 s c x) ∧ ((-9223372036854775808) ≤ x.2 + 1 ∧ x.2 + (1 : Int) ≤ 9223372036854775807) ∧ (0 ≤ x.2 ∧ x.2 ≤ x.2 + 1 ∧ x.2 + 1 ≤ (↑(ByteArray.size s) : Int)) ∧ (↑(ByteArray.size (List.getD x.1 (Int.toNat ((↑(List.length x.1) : Int) - 1)) (ByteArray.mk (Array.mk []))) + ByteArray.size (ByteArray.extract s (Int.toNat x.2) (Int.toNat (x.2 + 1)))) : Int) ≤ 9223372036854775807 ∧ (vc80_0 s c x) ∧ 0 ≤ (↑(List.length x.1) : Int) - 1 ∧ (↑(List.length x.1) : Int) - 1 < (↑(List.length x.1) : Int)) ∧ ((-9223372036854775808) ≤ x.2 + 1 ∧ x.2 + (1 : Int) ≤ 9223372036854775807) ∧ ∃ (y : List ByteArray × Int), (s = s ∧ c = c ∧ x.2 + 1 = y.2 ∧ List.set x.1 (Int.toNat ((↑(List.length x.1) : Int) - 1)) (ByteArray.mk (Array.mk ((List.getD x.1 (Int.toNat ((↑(List.length x.1) : Int) - 1)) (ByteArray.mk (Array.mk []))).data.toList ++ (ByteArray.extract s (Int.toNat x.2) (Int.toNat (x.2 + 1))).data.toList))) = y.1) ∧ ((y.1 = [] → False) ∧ List.length y.1 ≤ Int.toNat y.2 + 1 ∧ (∀ (a : ByteArray), a ∈ y.1 → ByteArray.size a ≤ Int.toNat y.2) ∧ 0 ≤ y.2 ∧ y.2 ≤ (↑(ByteArray.size s) : Int) ∧ glue y.1 (splB (UInt8.ofNat (Int.toNat c)) (List.drop (Int.toNat y.2) s.data.toList)) = splitF s c) ∧ ByteArray.size s - Int.toNat y.2 < ByteArray.size s - Int.toNat x.2)) ∧ (decide (x.2 < (↑(ByteArray.size s) : Int)) = false → x.1 = splitF s c)) := by
 intros
 kernel_rfl
theorem wp80 (s : ByteArray) (c : Int) : wpF Tryz.prog G137 (ann0 (annSplitR s c)) Tryz.f80 cSplitR (s, c, ()) := by
  refine (vc80 s c).mpr ?_
  delta vc80_0
  intro hs hc0 hc1
  have hl : s.data.toList.length = s.size := by simp
  refine ⟨([bs []], 0), ⟨rfl, rfl, rfl, rfl⟩, ⟨by simp, by simp, fun a ha => by have : a = bs [] := by simpa using ha
                                                                                rw [this]; exact Nat.le_refl _, Int.le_refl _, by omega, ?_⟩, ?_⟩
  · have := splB_ne (UInt8.ofNat c.toNat) s.data.toList
    unfold splitF
    cases h : splB (UInt8.ofNat c.toNat) s.data.toList with
    | nil => exact absurd h this
    | cons x r => simp only [Int.toNat_zero, List.drop_zero, h]; simp [glue, bs]
  · rintro ⟨o, i⟩ ⟨ho, hlen, hsz, hi0, hi1, hg⟩
    dsimp only at ho hlen hsz hi0 hi1 hg ⊢
    obtain ⟨j, rfl⟩ := Int.eq_ofNat_of_zero_le hi0
    obtain ⟨d, a, rfl⟩ : ∃ d a, o = d ++ [a] := by
      rcases List.eq_nil_or_concat o with h | ⟨d, a, h⟩
      · exact absurd h ho
      · exact ⟨d, a, by simpa using h⟩
    refine ⟨fun hlt => ?_, fun hlt => ?_⟩
    · have hlt : j < s.size := by simpa using hlt
      have hd : s.data.toList.drop j = s.data.toList.getD j 0 :: s.data.toList.drop (j + 1) := by
        rw [List.drop_eq_getElem_cons (by omega), List.getD_eq_getElem?_getD, List.getElem?_eq_getElem (by omega)]; rfl
      simp only [Int.toNat_natCast] at hlen hsz hg ⊢
      rw [hd] at hg
      have hex := extract_one hlt
      generalize hx : s.data.toList.getD j 0 = x at *
      have hlen2 : d.length + 1 ≤ j + 1 := by simpa using hlen
      have ha : a.size ≤ j := hsz a (by simp)
      refine ⟨by omega, fun hb => ?_, fun hb => ?_⟩
      · have hb : (x.toNat : Int) = c := by simpa using hb
        have hxc : x = UInt8.ofNat c.toNat := by rw [← hb]; simp
        rw [show splB (UInt8.ofNat c.toNat) (x :: s.data.toList.drop (j + 1)) = [] :: splB (UInt8.ofNat c.toNat) (s.data.toList.drop (j + 1)) by rw [splB_cons, if_pos hxc]] at hg
        refine ⟨by simp; omega, by omega, (d ++ [a] ++ [bs []], ((j + 1 : Nat) : Int)), ⟨trivial, trivial, by simp, rfl⟩, ⟨by simp, by simp; omega, fun b hb => ?_, by dsimp only; omega, by dsimp only; omega, ?_⟩, by simp; omega⟩
        · simp only [Int.toNat_natCast]
          rcases List.mem_append.1 hb with hb | hb
          · exact Nat.le_succ_of_le (hsz b hb)
          · have : b = bs [] := by simpa using hb
            rw [this]; exact Nat.zero_le _
        · simp only [Int.toNat_natCast]
          rw [glue_new _ _ _ (splB_ne _ _)]; exact hg
      · have hb : ¬ (x.toNat : Int) = c := by simpa using hb
        have hxc : ¬ x = UInt8.ofNat c.toNat := by
          rintro rfl
          apply hb
          rw [UInt8.toNat_ofNat_of_lt' (by show c.toNat < 256; omega)]
          omega
        obtain ⟨h, t, ht⟩ : ∃ h t, splB (UInt8.ofNat c.toNat) (s.data.toList.drop (j + 1)) = h :: t := by
          cases h0 : splB (UInt8.ofNat c.toNat) (s.data.toList.drop (j + 1)) with
          | nil => exact absurd h0 (splB_ne _ _)
          | cons h t => exact ⟨h, t, rfl⟩
        rw [show splB (UInt8.ofNat c.toNat) (x :: s.data.toList.drop (j + 1)) = (x :: h) :: t by rw [splB_cons, if_neg hxc, ht]] at hg
        have ej : ((j : Int) + 1).toNat = j + 1 := by omega
        have el : ((((d ++ [a]).length : Nat) : Int) - 1).toNat = d.length := by simp
        have ep : (d ++ [a]).getD d.length (⟨⟨[]⟩⟩ : ByteArray) = a := by simp [List.getD_eq_getElem?_getD]
        have es : ∀ v, (d ++ [a]).set d.length v = d ++ [v] := fun v => by simp
        have ex : (s.extract j (j + 1)).size = 1 := by rw [ByteArray.size_extract]; omega
        have elen : (d ++ [a]).length = d.length + 1 := by simp
        rw [ej, el, ep, es, hex, ex]
        refine ⟨⟨by omega, by omega, by omega, by omega, by omega, by omega, by omega, by omega, by omega⟩, by omega, (d ++ [bs (a.data.toList ++ [x])], ((j + 1 : Nat) : Int)), ⟨trivial, trivial, by simp, rfl⟩, ⟨by simp, by simp; omega, fun b hb => ?_, by dsimp only; omega, by dsimp only; omega, ?_⟩, by simp; omega⟩
        · simp only [Int.toNat_natCast]
          rcases List.mem_append.1 hb with hb | hb
          · exact Nat.le_succ_of_le (hsz b (by simp [hb]))
          · have : b = bs (a.data.toList ++ [x]) := by simpa using hb
            rw [this]
            have : a.data.toList.length = a.size := by simp
            show (a.data.toList ++ [x]).toArray.size ≤ j + 1
            simp; omega
        · simp only [Int.toNat_natCast]
          rw [ht, glue_more]; exact hg
    · have hj : j = s.size := by have : ¬ ((j : Int) < s.size) := by simpa using hlt
                                 omega
      simp only [Int.toNat_natCast] at hg
      rw [List.drop_eq_nil_of_le (by omega)] at hg
      rw [← hg, splB, glue_end]
theorem ok80 : Ok Tryz.prog 80 cSplitR := ok_of_wp mixed g137 (by kernel_rfl) (by kernel_rfl) (fun xx => ann0 (annSplitR xx.1 xx.2.1)) fun xx => wp80 xx.1 xx.2.1
abbrev G138 : Gam := (80, cSplitR) :: G137
theorem g138 : GamOk Tryz.prog G138 := .cons ok80 g137
set_option maxHeartbeats 20000000
theorem dec_big {u : Nat} (h : ¬ u < 10) : Lib.decDigits u = Lib.decDigits (u / 10) ++ [UInt8.ofNat (48 + u % 10)] := by rw [Lib.decDigits, dif_neg h]
abbrev G139 : Gam := G138
theorem g139 : GamOk Tryz.prog G139 := g138
set_option maxHeartbeats 20000000
def indexF (s : ByteArray) (c : Int) : Int := Lib.indexByte s.data.toList c.toNat.toUInt8
def cIndexB : Con := { args := [taS, taU], ress := [tI], owns := [], pre := fun _ => [], spec := fun (s, c, _) => (indexF s c, ()) }
theorem ok169 : Ok Tryz.prog 169 cIndexB := by
 refine ⟨⟨Tryz.f169, by kernel_rfl, by kernel_rfl, by kernel_rfl⟩, fun z hz => (by cases hz), fun F hF => (by cases hF), fun _ x M R w vs hM hg hpre hargs => ?_⟩
 obtain ⟨s, c, u⟩ := x
 obtain ⟨v1, vs1, rfl, ha1, v2, vs2, rfl, ha2, hr⟩ := hargs
 have hr : vs2 = [] := hr
 subst hr
 obtain ⟨cs1, rfl, hc1⟩ := ha1
 obtain ⟨cs2, rfl, hc2⟩ := ha2
 have hc1 : cs1 = [.string s] := hc1
 have hc2 : cs2 = [.int .u8 c] := hc2
 subst hc1; subst hc2
 refine (Tryz.strings_IndexByte s c w).mono ?_
 rintro e w' ⟨rfl, rfl⟩
 exact ⟨M, [.int .i64 (indexF s c)], rfl, .refl _ _, fun _ h => h, fun b h => .inl h, _, [], rfl, ⟨_, rfl, rfl⟩, rfl⟩
abbrev G140 : Gam := (169, cIndexB) :: G139
theorem g140 : GamOk Tryz.prog G140 := .cons ok169 g139
def wordsS (s p : ByteArray) : List ByteArray := Lib.splitB p 0 (Lib.countB s p) s
def cWords : Con := { args := [taS, taS], ress := [tSs], owns := [true], pre := fun (s, p, _) => [s.size ≤ 1000000, 1 ≤ p.size], spec := fun (s, p, _) => (wordsS s p, ()) }
theorem repL_strs' {M : Nat → Prop} {w : World} : ∀ {xs : List ByteArray}, RepL (Rep M w .str) xs (xs.map Value.string)
 | [] => rfl
 | x :: xs => ⟨[.string x], xs.map Value.string, rfl, rfl, repL_strs'⟩
theorem ok138 : Ok Tryz.prog 138 cWords := by
 refine ⟨⟨Tryz.f138, by kernel_rfl, by kernel_rfl, by kernel_rfl⟩, fun z hz => (by cases hz), fun F hF => (by cases hF), fun _ x M R w vs hM hg hpre hargs => ?_⟩
 obtain ⟨s, p, u⟩ := x
 obtain ⟨v1, vs1, rfl, ha1, v2, vs2, rfl, ha2, hr⟩ := hargs
 have hr : vs2 = [] := hr
 subst hr
 obtain ⟨cs1, rfl, hc1⟩ := ha1
 obtain ⟨cs2, rfl, hc2⟩ := ha2
 have hc1 : cs1 = [.string s] := hc1
 have hc2 : cs2 = [.string p] := hc2
 subst hc1; subst hc2
 have hpre : s.size ≤ 1000000 ∧ 1 ≤ p.size := hpre
 refine (Tryz.strings_Split_shaped s p w ((hg w (.refl _ _)).2 rfl).1 (by omega) hpre.2).mono ?_
 rintro e w' ⟨rfl, rfl⟩
 have hlen : (wordsS s p).length = Lib.countB s p + 1 := Lib.splitB_all p hpre.2 0 _ s rfl
 have hle := Lib.countB_le p hpre.2 s.size s (Nat.le_refl _)
 refine ⟨M, [_], rfl, .ofK ⟨rfl, rfl, rfl, by show w.heap.size ≤ (w.heap.push _).size; simp, fun i hi => ?_⟩, fun _ h => h, fun b h => .inl h, _, [], rfl, ⟨(wordsS s p).map Value.string, repL_strs', ⟨by simp [Sch.size, cWords], .inr ⟨w.heap.size, Lib.countB s p + 1, _, by rw [show (cWords.spec (s, p, u)).1 = wordsS s p from rfl, hlen], Nat.le_refl _, heap_alloc_new w _, by rw [show (cWords.spec (s, p, u)).1 = wordsS s p from rfl, hlen]; exact Nat.le_refl _, ?_, ?_, ?_⟩⟩, ?_⟩, rfl⟩
 ·show (w.heap.push _)[i]? = _
  rw [Array.getElem?_push]
  split
  ·omega
  ·rfl
 ·show _ ≤ 9223372036854775807
  have : s.size ≤ 1000000 := hpre.1
  omega
 ·show (List.map Value.string (wordsS s p)).toArray.size = _
  simp [Sch.size, hlen]
 ·show (List.map Value.string (wordsS s p)).take ((wordsS s p).length * 1) = _
  rw [List.take_of_length_le (by simp)]
 ·intro g hgb hM'
  have : w.heap.size = g := Option.some.inj hgb
  have := hM g (.inl hM')
  omega
abbrev G141 : Gam := (138, cWords) :: G140
theorem g141 : GamOk Tryz.prog G141 := .cons ok138 g140
def cAtoi : Con := { args := [], ress := [], owns := [], pre := fun _ => [False], spec := fun _ => (), prim := some atoP }
theorem call194 (s : ByteArray) (w : World) (hs : s.size ≤ 1000000) (hg : Sx.Good Tryz.prog w) : Calls Tryz.prog 194 #[.string s] w fun e w' => ∃ u, e = .returned (.tuple #[.int .i64 (atoN s), u]) ∧ IfcOk (atoE s) u ∧ Sx.Below w.heap.size w w' := by
 have hw := (hg w (.refl _ _)).2 rfl
 cases h : Lib.atoiAll s.data.toList
 ·rename_i v
  have e1 : atoN s = v := by unfold atoN; rw [h]
  have e2 : atoE s = false := by unfold atoE; rw [h]
  rw [e1, e2]
  refine Calls.mono (Any.strconv_Atoi_ok Tryz.laysAtoi s (by omega) v h w) ?_
  rintro e w' ⟨rfl, rfl | ⟨t, rfl⟩⟩
  ·exact ⟨_, rfl, rfl, .refl _ _⟩
  ·exact ⟨_, rfl, rfl, .ofK (Lib.bytesWorld_below w _ t)⟩
 ·have e1 : atoN s = 0 := by unfold atoN; rw [h]
  have e2 : atoE s = true := by unfold atoE; rw [h]
  rw [e1, e2]
  obtain ⟨tp, pe, hv⟩ := hw.2.1
  refine Calls.mono (Any.strconv_Atoi_syntax_var Tryz.laysAtoi s (by omega) h tp pe w hv) ?_
  rintro e w' ⟨N, rfl, _, _, hb⟩
  exact ⟨_, rfl, ⟨_, _, rfl⟩, .ofK hb⟩
 ·have e1 : atoN s = Lib.atoiSat s.data.toList := by unfold atoN; rw [h]
  have e2 : atoE s = true := by unfold atoE; rw [h]
  rw [e1, e2]
  obtain ⟨tp, pe, hv⟩ := hw.2.2
  refine Calls.mono (Any.strconv_Atoi_range_var Tryz.laysAtoi s (by omega) h tp pe w hv) ?_
  rintro e w' ⟨N, rfl, _, _, hb⟩
  exact ⟨_, rfl, ⟨_, _, rfl⟩, .ofK hb⟩
theorem ok194 : Ok Tryz.prog 194 cAtoi := ⟨⟨Tryz.f194, by kernel_rfl, by kernel_rfl, by kernel_rfl⟩, fun z hz => (by cases hz), fun F hF => (by cases hF; exact atoP_ok fun s w hs hg => call194 s w hs hg), fun _ x M R w vs _ _ hpre _ => False.elim hpre⟩
abbrev G142 : Gam := (194, cAtoi) :: G141
theorem g142 : GamOk Tryz.prog G142 := .cons ok194 g141
set_option maxHeartbeats 20000000
def intN (s : ByteArray) : Int := match Lib.atoiAll s.data.toList with
 | .ok v => v
 | .range => Lib.atoiSat s.data.toList
 | _ => 0
theorem intN_ato (s : ByteArray) : intN s = atoN s := by unfold intN atoN; cases Lib.atoiAll s.data.toList <;> rfl
def minus : ByteArray := ⟨#[45]⟩
def intB (s : ByteArray) : Bool := match Lib.atoiAll s.data.toList with
 | .ok v => ((itoaS v).toList == s.toList) && decide (((trimP s minus).size : Int) ≤ 9)
 | _ => false
theorem bs_data (a : ByteArray) : bs a.data.toList = a := rfl
theorem splitK_splB (c : UInt8) : ∀ l : List UInt8, Lib.splitK [c] 0 (l.count c) l = splB c l
 | [] => rfl
 | x :: r => by
  have ih := splitK_splB c r
  by_cases h : x = c
  ·subst h
   rw [splB_cons, if_pos rfl, List.count_cons_self]
   have e : Lib.index (x :: r) [x] = 0 := by simp [Lib.index, List.isPrefixOf]
   rw [Lib.splitK, e, ← ih]
   rfl
  ·rw [splB_cons, if_neg h, List.count_cons_of_ne h, ← ih]
   have hp : [c].isPrefixOf (x :: r) = false := by
    have : ¬ c = x := fun e => h e.symm
    simp [List.isPrefixOf, this]
   cases hk : r.count c with
   | zero => rfl
   | succ k =>
    have hi : Lib.index (x :: r) [c] = if Lib.index r [c] == -1 then -1 else Lib.index r [c] + 1 := by rw [Lib.index, hp]; rfl
    by_cases h1 : Lib.index r [c] = -1
    ·have e2 : Lib.index (x :: r) [c] = -1 := by rw [hi, h1]; rfl
     simp only [Lib.splitK, e2, h1]
     rfl
    ·have hg := Lib.index_ge r [c]
     have e2 : Lib.index (x :: r) [c] = Lib.index r [c] + 1 := by rw [hi, if_neg (by simpa using h1)]
     obtain ⟨i, hi⟩ := Int.eq_ofNat_of_zero_le (by omega : 0 ≤ Lib.index r [c])
     rw [hi] at e2
     have n1 : ¬ ((i : Int) == -1) = true := by simp
     have n2 : ¬ (((i : Int) + 1) == -1) = true := by simp; omega
     simp only [Lib.splitK, e2, hi]
     rw [if_neg n1, if_neg n2]
     have t1 : ((i : Int) + 1).toNat = i + 1 := by omega
     have t2 : ((i : Int)).toNat = i := by omega
     simp only [t1, t2, Nat.add_zero, List.take_succ_cons, List.length_cons, List.length_nil]
     rfl
theorem words_split (s : ByteArray) (c : UInt8) : wordsS s ⟨#[c]⟩ = (splB c s.data.toList).map bs := by
 have h := Lib.splitB_data ⟨#[c]⟩ 0 (Lib.countB s ⟨#[c]⟩) s
 have hc : Lib.countB s ⟨#[c]⟩ = s.data.toList.count c := Lib.count_one c s.data.toList
 rw [hc] at h
 have h2 : (wordsS s ⟨#[c]⟩).map (·.data.toList) = splB c s.data.toList := by
  rw [← splitK_splB]
  unfold wordsS
  rw [hc]; exact h
 rw [← h2, List.map_map]
 exact (List.map_id' _).symm
theorem splB_len (c : UInt8) : ∀ (l w : List UInt8), w ∈ splB c l → w.length ≤ l.length
 | [], w, h => by
  have : w = [] := by simpa [splB] using h
  rw [this]; exact Nat.le_refl _
 | x :: r, w, h => by
  rw [splB_cons] at h
  split at h
  ·rcases List.mem_cons.1 h with h | h
   ·rw [h]; exact Nat.zero_le _
   ·exact Nat.le_succ_of_le (splB_len c r w h)
  ·split at h
   ·rename_i e; exact absurd e (splB_ne c r)
   ·rename_i hh t e
    rcases List.mem_cons.1 h with h | h
    ·rw [h]
     exact Nat.succ_le_succ (splB_len c r hh (by rw [e]; simp))
    ·exact Nat.le_succ_of_le (splB_len c r w (by rw [e]; simp [h]))
theorem idx_hit : ∀ (l : List UInt8) (i : Nat), Lib.indexByte l 10 = (i : Int) → i < l.length ∧ splB 10 l = l.take i :: splB 10 (l.drop (i + 1)) ∧ l.take (i + 1) = l.take i ++ [10]
 | [], i, h => by
  have h : (-1 : Int) = (i : Int) := h
  omega
 | b :: r, i, h => by
  by_cases hb : b = 10
  ·subst hb
   have h : (0 : Int) = (i : Int) := h
   have : i = 0 := by omega
   subst this
   exact ⟨by simp, rfl, rfl⟩
  ·have hb' : (b == 10) = false := by simpa using hb
   rw [Lib.indexByte, hb'] at h
   by_cases h1 : Lib.indexByte r 10 = -1
   ·rw [h1] at h
    have h : (-1 : Int) = (i : Int) := h
    omega
   ·have hg := Lib.indexByte_ge r 10
    obtain ⟨j, hj⟩ := Int.eq_ofNat_of_zero_le (by omega : 0 ≤ Lib.indexByte r 10)
    have h1' : (Lib.indexByte r 10 == -1) = false := by simpa using h1
    rw [h1', hj] at h
    have h : ((j : Int) + 1) = (i : Int) := h
    have : i = j + 1 := by omega
    subst this
    obtain ⟨a1, a2, a3⟩ := idx_hit r j hj
    refine ⟨by simp; omega, ?_, ?_⟩
    ·rw [splB_cons, if_neg hb, a2]; rfl
    ·rw [List.take_succ_cons, List.take_succ_cons, a3]; rfl
theorem idx_miss : ∀ (l : List UInt8), Lib.indexByte l 10 = -1 → splB 10 l = [l] ∧ 10 ∉ l
 | [], _ => ⟨rfl, by simp⟩
 | b :: r, h => by
  by_cases hb : b = 10
  ·subst hb
   have h : (0 : Int) = -1 := h
   omega
  ·have hb' : (b == 10) = false := by simpa using hb
   rw [Lib.indexByte, hb'] at h
   by_cases h1 : Lib.indexByte r 10 = -1
   ·obtain ⟨a1, a2⟩ := idx_miss r h1
    refine ⟨by rw [splB_cons, if_neg hb, a1], ?_⟩
    intro hm
    rcases List.mem_cons.1 hm with hm | hm
    ·exact hb hm.symm
    ·exact a2 hm
   ·have hg := Lib.indexByte_ge r 10
    have h1' : (Lib.indexByte r 10 == -1) = false := by simpa using h1
    rw [h1'] at h
    have h : Lib.indexByte r 10 + 1 = -1 := h
    omega
theorem bs_size (l : List UInt8) : (bs l).size = l.length := by show l.toArray.size = _; simp
theorem hasSuf_snoc (d : List UInt8) (x : UInt8) : hasSuf (bs (d ++ [x])) (⟨⟨[10]⟩⟩ : ByteArray) = (x == 10) := by
 unfold hasSuf
 have e1 : (⟨⟨[10]⟩⟩ : ByteArray).size = 1 := rfl
 have e2 : (bs (d ++ [x])).data.toList = d ++ [x] := rfl
 rw [Lib.extract_toList, Lib.toList_data, e1, e2, bs_size]
 simp
theorem ext_take (r : ByteArray) (i : Nat) : r.extract 0 i = bs (r.data.toList.take i) := by
 rw [← bs_data (r.extract 0 i), Lib.extract_data]; simp
theorem cutSuf_snoc (d : List UInt8) : cutSuf (bs (d ++ [10])) (⟨⟨[10]⟩⟩ : ByteArray) = bs d := by
 unfold cutSuf
 rw [hasSuf_snoc, show ((10 : UInt8) == 10) = true from rfl, if_pos rfl]
 have e1 : (⟨⟨[10]⟩⟩ : ByteArray).size = 1 := rfl
 rw [e1, bs_size]
 rw [ext_take]
 have e2 : (bs (d ++ [10])).data.toList = d ++ [10] := rfl
 rw [e2]
 simp
theorem ext_drop (r : ByteArray) (i : Nat) : r.extract i r.size = bs (r.data.toList.drop i) := by
 rw [← bs_data (r.extract i r.size), Lib.extract_data, List.take_of_length_le (by simp)]
theorem splitF_10 (s : ByteArray) : splitF s 10 = (splB 10 s.data.toList).map bs := rfl
theorem splB_cnt (c : UInt8) : ∀ l : List UInt8, (splB c l).length ≤ l.length + 1
 | [] => Nat.le_refl _
 | x :: r => by
  have ih := splB_cnt c r
  rw [splB_cons]
  split
  ·simp; omega
  ·split
   ·simp
   ·rename_i e; rw [e] at ih; simp at ih ⊢; omega
theorem digFrom_snoc (c : UInt8) : ∀ (l : List UInt8) (n : Int), digFrom (l ++ [c]) n = if (digFrom l n).2 = true ∧ isDig c.toNat = true then (10 * (digFrom l n).1 + (c.toNat - 48), true) else (0, false)
 | [], n => by
  show (if isDig c.toNat = true then _ else _) = _
  by_cases h : isDig c.toNat = true
  ·rw [if_pos h, if_pos ⟨rfl, h⟩]; rfl
  ·rw [if_neg h, if_neg (fun q => h q.2)]
 | x :: l, n => by
  have ih := digFrom_snoc c l (10 * n + (x.toNat - 48))
  show (if isDig x.toNat = true then digFrom (l ++ [c]) (10 * n + (x.toNat - 48)) else (0, false)) = _
  have e : digFrom (x :: l) n = if isDig x.toNat = true then digFrom l (10 * n + (x.toNat - 48)) else (0, false) := rfl
  rw [e]
  by_cases h : isDig x.toNat = true
  ·rw [if_pos h, if_pos h, ih]
  ·rw [if_neg h, if_neg h, if_neg (fun q => by cases q.1)]
theorem dec_snoc (u : Nat) : 10 ≤ u → Lib.decDigits u = Lib.decDigits (u / 10) ++ [UInt8.ofNat (48 + u % 10)] := fun h => dec_big (by omega)
theorem dig_ofNat {x : Nat} (h : x < 10) : (UInt8.ofNat (48 + x)).toNat = 48 + x := UInt8.toNat_ofNat_of_lt' (by show 48 + x < 256; omega)
theorem isDig_ofNat {x : Nat} (h : x < 10) : isDig (UInt8.ofNat (48 + x)).toNat = true := by
 rw [dig_ofNat h]; unfold isDig; simp; omega
theorem digFrom_dec (u : Nat) : digFrom (Lib.decDigits u) 0 = ((u : Int), true) := by
 induction u using Nat.strongRecOn with
 | ind u ih =>
  by_cases h : u < 10
  ·rw [Lib.decDigits_one h]
   show (if isDig (UInt8.ofNat (48 + u)).toNat = true then _ else _) = _
   rw [if_pos (isDig_ofNat h), dig_ofNat h]
   show ((_ : Int), true) = _
   congr 1; omega
  ·have hd : u % 10 < 10 := Nat.mod_lt _ (by decide)
   rw [dec_snoc u (by omega), digFrom_snoc, ih (u / 10) (by omega), if_pos ⟨rfl, isDig_ofNat hd⟩, dig_ofNat hd]
   congr 1; dsimp only; omega
theorem dec_head (u : Nat) : ∃ c r, Lib.decDigits u = c :: r ∧ isDig c.toNat = true ∧ (1 ≤ u → c.toNat ≠ 48) := by
 induction u using Nat.strongRecOn with
 | ind u ih =>
  by_cases h : u < 10
  ·refine ⟨_, _, Lib.decDigits_one h, isDig_ofNat h, fun h1 => ?_⟩
   rw [dig_ofNat h]; omega
  ·obtain ⟨c, r, e, h1, h2⟩ := ih (u / 10) (by omega)
   exact ⟨c, r ++ [UInt8.ofNat (48 + u % 10)], by rw [dec_snoc u (by omega), e]; rfl, h1, fun _ => h2 (by omega)⟩
theorem dec_len_pos (u : Nat) : 1 ≤ (Lib.decDigits u).length := by
 obtain ⟨c, r, e, _⟩ := dec_head u
 rw [e]; simp
theorem dec_len : ∀ (k u : Nat), ((Lib.decDigits u).length ≤ k + 1 ↔ u < 10 ^ (k + 1))
 | 0, u => by
  by_cases h : u < 10
  ·rw [Lib.decDigits_one h]; simp; omega
  ·have h2 := dec_len_pos (u / 10)
   rw [dec_snoc u (by omega), List.length_append]
   simp only [List.length_cons, List.length_nil]
   constructor
   ·intro q; omega
   ·intro q; simp at q; omega
 | k + 1, u => by
  by_cases h : u < 10
  ·rw [Lib.decDigits_one h]
   have : 10 ≤ 10 ^ (k + 1 + 1) := by
    rw [Nat.pow_succ]
    have := Nat.pos_of_ne_zero (n := 10 ^ (k + 1)) (by simp)
    omega
   simp; omega
  ·have ih := dec_len k (u / 10)
   rw [dec_snoc u (by omega), List.length_append]
   simp only [List.length_cons, List.length_nil]
   rw [Nat.pow_succ]
   constructor
   ·intro q
    have := ih.1 (by omega)
    omega
   ·intro q
    have := ih.2 (by omega)
    omega
theorem parse_step {c : UInt8} {r : List UInt8} {n : Nat} (h : 48 ≤ c.toNat ∧ c.toNat ≤ 57) (h1 : ¬ 1844674407370955162 ≤ n) (h2 : ¬ 18446744073709551616 ≤ n * 10 + (c.toNat - 48)) : Lib.parseUint10 n (c :: r) = Lib.parseUint10 (n * 10 + (c.toNat - 48)) r := by
 simp only [Lib.parseUint10]
 rw [if_pos h, if_neg h1, if_neg h2]
theorem digFrom_cons (c : UInt8) (r : List UInt8) (n : Int) : digFrom (c :: r) n = if isDig c.toNat = true then digFrom r (10 * n + (c.toNat - 48)) else (0, false) := rfl
theorem parse_dig (l : List UInt8) : ∀ (n : Nat), (digFrom l n).2 = true → (digFrom l n).1 < 1000000000000000000 → Lib.parseUint10 n l = .ok (digFrom l n).1.toNat ∧ (n : Int) ≤ (digFrom l n).1 := by
 induction l with
 | nil => exact fun n _ _ => ⟨rfl, Int.le_refl _⟩
 | cons c r ih =>
  intro n h1 h2
  by_cases h : isDig c.toNat = true
  ·rw [digFrom_cons, if_pos h] at h1 h2 ⊢
   have hr := dig_rng h
   have en : (10 * (n : Int) + ((c.toNat : Int) - 48)) = ((n * 10 + (c.toNat - 48) : Nat) : Int) := by omega
   rw [en] at h1 h2 ⊢
   obtain ⟨a1, a2⟩ := ih _ h1 h2
   have h3 : n < 1000000000000000000 := by omega
   refine ⟨?_, by omega⟩
   rw [parse_step hr (by omega) (by omega)]
   exact a1
  ·rw [digFrom_cons, if_neg h] at h1; cases h1
theorem bs_toList (l : List UInt8) : (bs l).toList = l := by rw [Lib.toList_data]; rfl
theorem mag_dec {u : Nat} (h : u < 1000000000) : Lib.parseMag (Lib.decDigits u) = .ok u := by
 obtain ⟨c, r, e, _⟩ := dec_head u
 unfold Lib.parseMag
 rw [if_neg (by rw [e]; simp)]
 have hd := digFrom_dec u
 have := (parse_dig (Lib.decDigits u) 0 (by show (digFrom _ 0).2 = true; rw [hd]) (by show (digFrom _ 0).1 < _; rw [hd]; dsimp only; omega)).1
 rw [this]
 show Lib.NumEnd.ok (digFrom _ 0).1.toNat = _
 rw [hd]; rfl
theorem atoi_itoa {v : Int} (h0 : -1000000000 < v) (h1 : v < 1000000000) : Lib.atoiAll (Lib.itoa v) = .ok v := by
 rcases (by omega : v < 0 ∨ 0 ≤ v) with hv | hv
 ·obtain ⟨u, hu⟩ := Int.eq_ofNat_of_zero_le (by omega : 0 ≤ -v)
  have hn : v = -(u : Int) := by omega
  subst hn
  rw [Lib.itoa_neg u (by omega)]
  have hm := mag_dec (u := u) (by omega)
  have e45 : (45 : UInt8).toNat = 45 := rfl
  simp only [Lib.atoiAll, e45]
  rw [if_pos (Or.inr trivial), hm]
  dsimp only
  rw [if_neg (by omega), if_neg (by omega), if_pos trivial]
 ·obtain ⟨u, rfl⟩ := Int.eq_ofNat_of_zero_le hv
  have e : Lib.itoa (u : Int) = Lib.decDigits u := Lib.itoa_nonneg u
  rw [e]
  have hm := mag_dec (u := u) (by omega)
  obtain ⟨c, r, e, h3, h4⟩ := dec_head u
  have hr := dig_rng h3
  rw [e] at hm ⊢
  simp only [Lib.atoiAll]
  rw [if_neg (by omega), hm]
  dsimp only
  rw [if_neg (by omega), if_neg (by omega), if_neg (by omega)]
theorem trim_cons (c : UInt8) (r : List UInt8) : trimP (bs (c :: r)) minus = if c = 45 then bs r else bs (c :: r) := by
 have e1 : minus.size = 1 := rfl
 have e2 : minus.toList = [45] := by rw [Lib.toList_data]; rfl
 have e3 : (bs (c :: r)).extract 0 1 = bs [c] := by rw [ext_take]; rfl
 have hp : hasPre (bs (c :: r)) minus = (c == 45) := by
  unfold hasPre
  rw [e1, e2, e3, bs_toList, bs_size]
  simp
 unfold trimP
 rw [hp, e1]
 by_cases h : c = 45
 ·rw [if_pos h, if_pos (by simpa using h), ext_drop]; rfl
 ·rw [if_neg h, if_neg (by simpa using h)]
theorem int_itoa {v : Int} (h0 : -1000000000 < v) (h1 : v < 1000000000) : intB (bs (Lib.itoa v)) = true ∧ intN (bs (Lib.itoa v)) = v := by
  have ha : Lib.atoiAll (bs (Lib.itoa v)).data.toList = .ok v := atoi_itoa h0 h1
  refine ⟨?_, by unfold intN; rw [ha]⟩
  have e : intB (bs (Lib.itoa v)) = (((itoaS v).toList == (bs (Lib.itoa v)).toList) && decide (((trimP (bs (Lib.itoa v)) minus).size : Int) ≤ 9)) := by unfold intB; rw [ha]
  rw [e]
  have e1 : itoaS v = bs (Lib.itoa v) := rfl
  rw [e1]
  have h9 : ((trimP (bs (Lib.itoa v)) minus).size : Int) ≤ 9 := by
    rcases (by omega : v < 0 ∨ 0 ≤ v) with hv | hv
    · obtain ⟨u, hu⟩ := Int.eq_ofNat_of_zero_le (by omega : 0 ≤ -v)
      have hn : v = -(u : Int) := by omega
      subst hn
      have hl := (dec_len 8 u).2 (by have : u < 1000000000 := by omega
                                     simpa using this)
      rw [Lib.itoa_neg u (by omega), trim_cons, if_pos rfl, bs_size]
      omega
    · obtain ⟨u, rfl⟩ := Int.eq_ofNat_of_zero_le hv
      have e : Lib.itoa (u : Int) = Lib.decDigits u := Lib.itoa_nonneg u
      rw [e]
      have hl := (dec_len 8 u).2 (by have : u < 1000000000 := by omega
                                     simpa using this)
      obtain ⟨c, r, e, h3, h4⟩ := dec_head u
      have hr := dig_rng h3
      rw [e] at hl ⊢
      rw [trim_cons, if_neg (by rintro rfl; have : (45 : UInt8).toNat = 45 := rfl; omega), bs_size]
      omega
  simp [h9]
theorem int_inv {s : ByteArray} (h : intB s = true) : ∃ v, -1000000000 < v ∧ v < 1000000000 ∧ s = bs (Lib.itoa v) := by
 unfold intB at h
 split at h
 ·rename_i v hv
  simp only [Bool.and_eq_true, beq_iff_eq, decide_eq_true_eq] at h
  obtain ⟨h1, h2⟩ := h
  have e1 : itoaS v = bs (Lib.itoa v) := rfl
  rw [e1, bs_toList, Lib.toList_data] at h1
  have es : s = bs (Lib.itoa v) := by rw [h1]; rfl
  rw [es] at h2
  rcases (by omega : v < 0 ∨ 0 ≤ v) with hv | hv
  ·obtain ⟨u, hu⟩ := Int.eq_ofNat_of_zero_le (by omega : 0 ≤ -v)
   have hn : v = -(u : Int) := by omega
   subst hn
   rw [Lib.itoa_neg u (by omega), trim_cons, if_pos rfl, bs_size] at h2
   have := (dec_len 8 u).1 (by omega)
   have : u < 1000000000 := by simpa using this
   exact ⟨_, by omega, by omega, es⟩
  ·obtain ⟨u, rfl⟩ := Int.eq_ofNat_of_zero_le hv
   have e : Lib.itoa (u : Int) = Lib.decDigits u := Lib.itoa_nonneg u
   rw [e] at h2
   obtain ⟨c, r, e2, h3, h4⟩ := dec_head u
   have hr := dig_rng h3
   have hl : (Lib.decDigits u).length ≤ 9 := by
    rw [e2, trim_cons, if_neg (by rintro rfl; have : (45 : UInt8).toNat = 45 := rfl; omega), bs_size, ← e2] at h2
    omega
   have := (dec_len 8 u).1 hl
   have : u < 1000000000 := by simpa using this
   exact ⟨_, by omega, by omega, es⟩
 ·cases h
theorem splB_app {c : UInt8} : ∀ {a : List UInt8} (r : List UInt8), c ∉ a → splB c (a ++ c :: r) = a :: splB c r
 | [], r, _ => by rw [List.nil_append, splB_cons, if_pos rfl]
 | x :: a, r, h => by
  have hx : ¬ x = c := fun e => h (by rw [e]; simp)
  rw [List.cons_append, splB_cons, if_neg hx, splB_app r (fun q => h (by simp [q]))]
theorem splB_none {c : UInt8} : ∀ {a : List UInt8}, c ∉ a → splB c a = [a]
 | [], _ => rfl
 | x :: a, h => by
  have hx : ¬ x = c := fun e => h (by rw [e]; simp)
  rw [splB_cons, if_neg hx, splB_none (a := a) (fun q => h (by simp [q]))]
def joinC (c : UInt8) : List (List UInt8) → List UInt8
 | [] => []
 | [w] => w
 | w :: r => w ++ c :: joinC c r
theorem joinC_cons (c : UInt8) (w : List UInt8) {r : List (List UInt8)} (h : r ≠ []) : joinC c (w :: r) = w ++ c :: joinC c r := by
 cases r with
 | nil => exact absurd rfl h
 | cons a b => rfl
theorem join_split (c : UInt8) : ∀ l : List UInt8, joinC c (splB c l) = l
 | [] => rfl
 | x :: r => by
  have ih := join_split c r
  have hne := splB_ne c r
  rw [splB_cons]
  split
  ·rename_i h
   rw [joinC_cons c [] hne, ih, h]; rfl
  ·split
   ·rename_i e; exact absurd e hne
   ·rename_i h t e
    rw [e] at ih
    cases t with
    | nil =>
     have ih : h = r := ih
     show x :: h = x :: r
     rw [ih]
    | cons a b =>
     rw [joinC_cons c h (by simp)] at ih
     rw [joinC_cons c (x :: h) (by simp), List.cons_append, ih]
theorem dec_all (u : Nat) : ∀ c ∈ Lib.decDigits u, isDig c.toNat = true := by
 induction u using Nat.strongRecOn with
 | ind u ih =>
  intro c hc
  by_cases h : u < 10
  ·rw [Lib.decDigits_one h] at hc
   have : c = UInt8.ofNat (48 + u) := by simpa using hc
   rw [this]; exact isDig_ofNat h
  ·rw [dec_snoc u (by omega)] at hc
   rcases List.mem_append.1 hc with hc | hc
   ·exact ih (u / 10) (by omega) c hc
   ·have : c = UInt8.ofNat (48 + u % 10) := by simpa using hc
    rw [this]; exact isDig_ofNat (Nat.mod_lt _ (by decide))
theorem itoa_all (n : Int) : ∀ c ∈ Lib.itoa n, c ≠ 10 ∧ c ≠ 32 := by
 have key : ∀ (u : Nat), ∀ c ∈ Lib.decDigits u, c ≠ 10 ∧ c ≠ 32 := fun u c hc => by
  have hr := dig_rng (dec_all u c hc)
  have e1 : (10 : UInt8).toNat = 10 := rfl
  have e2 : (32 : UInt8).toNat = 32 := rfl
  exact ⟨by rintro rfl; omega, by rintro rfl; omega⟩
 intro c hc
 unfold Lib.itoa at hc
 split at hc
 ·rcases List.mem_cons.1 hc with hc | hc
  ·rw [hc]; decide
  ·exact key _ c hc
 ·exact key _ c hc
set_option maxHeartbeats 20000000
def zeroC : Cab := ([], [], 0, 0)
def kindW (k : Nat) : List UInt8 := if k = 0 then [99, 97, 98, 108, 101] else if k % 2 = 1 then [115, 101, 99, 116, 105, 111, 110] else [106, 111, 105, 110, 116]
def kindN (k : Nat) : Nat := if k = 0 then 2 else if k % 2 = 1 then 2 else 1
def addC (k : Nat) (c : Cab) (ns : List Int) : Cab := if k = 0 then (c.1, c.2.1, ns.getD 0 0, ns.getD 1 0) else if k % 2 = 1 then (c.1 ++ [(ns.getD 0 0, ns.getD 1 0)], c.2.1, c.2.2.1, c.2.2.2) else (c.1, c.2.1 ++ [ns.getD 0 0], c.2.2.1, c.2.2.2)
def numsL (f : ByteArray → Int × Bool) (w : List UInt8) : List Int := (splB 32 w).tail.map fun x => (f (bs x)).1
def okLn (f : ByteArray → Int × Bool) (k : Nat) (w : List UInt8) : Bool := ((splB 32 w).headD [] == kindW k) && ((splB 32 w).tail.length == kindN k) && (splB 32 w).tail.all fun x => (f (bs x)).2
def finC (c : Cab) (k : Nat) : Cab × Int × Int := if k = 0 ∨ 1 < k ∧ k % 2 = 1 then (zeroC, k, 25) else if cabS c = 0 then (c, 0, 0) else (zeroC, k, cabS c)
def parseC (f : ByteArray → Int × Bool) : List (List UInt8) → Nat → Cab → Cab × Int × Int
 | [], k, c => finC c k
 | [w], k, c => if w = [] then finC c k else (zeroC, k, 25)
 | w :: r, k, c => if okLn f k w = true then parseC f r (k + 1) (addC k c (numsL f w)) else (zeroC, k, 25)
theorem parseC_cons (f : ByteArray → Int × Bool) {w : List UInt8} {r : List (List UInt8)} (h : r ≠ []) (k : Nat) (c : Cab) : parseC f (w :: r) k c = if okLn f k w = true then parseC f r (k + 1) (addC k c (numsL f w)) else (zeroC, k, 25) := by
 cases r with
 | nil => exact absurd rfl h
 | cons a b => rfl
def readI (s : ByteArray) : Int × Bool := (intN s, intB s)
def parseT (s : ByteArray) : Cab × Int × Int := if 4096 < s.size then (zeroC, 0, 26) else parseC readI (splB 10 s.data.toList) 0 zeroC
def bodyC (k : Nat) (ns : List Int) : List UInt8 := kindW k ++ ns.flatMap fun n => 32 :: Lib.itoa n
def nthL (c : Cab) (j : Nat) : List Int := if j = 0 then [c.2.2.1, c.2.2.2] else if j % 2 = 1 then [(c.1.getD (j / 2) (0, 0)).1, (c.1.getD (j / 2) (0, 0)).2] else [c.2.1.getD (j / 2 - 1) 0]
def lnC (c : Cab) (j : Nat) : List UInt8 := bodyC j (nthL c j)
def outP (c : Cab) (k : Nat) : List UInt8 := (List.range k).flatMap fun j => lnC c j ++ [10]
theorem outP_succ (c : Cab) (k : Nat) : outP c (k + 1) = outP c k ++ (lnC c k ++ [10]) := by
 unfold outP
 rw [List.range_succ, List.flatMap_append]
 simp
theorem kindW_no (k : Nat) : (32 : UInt8) ∉ kindW k ∧ (10 : UInt8) ∉ kindW k ∧ kindW k ≠ [] := by
 unfold kindW
 split
 ·decide
 split
 ·decide
 ·decide
theorem split_flat : ∀ (ns : List Int) (a : List UInt8), (32 : UInt8) ∉ a → splB 32 (a ++ ns.flatMap fun n => 32 :: Lib.itoa n) = a :: ns.map Lib.itoa
 | [], a, h => by rw [List.flatMap_nil, List.append_nil, splB_none h]; rfl
 | n :: r, a, h => by
  rw [List.flatMap_cons, List.cons_append, splB_app _ h, split_flat r _ fun q => (itoa_all _ _ q).2 rfl]
  rfl
theorem split_body (k : Nat) (ns : List Int) : splB 32 (bodyC k ns) = kindW k :: ns.map Lib.itoa := split_flat ns _ (kindW_no k).1
theorem join_flat : ∀ (t : List (List UInt8)) (h : List UInt8), joinC 32 (h :: t) = h ++ t.flatMap fun x => 32 :: x
 | [], h => by simp [joinC]
 | x :: r, h => by
  rw [joinC_cons _ _ (by simp), join_flat r x]
  simp
theorem body_no10 (k : Nat) (ns : List Int) : (10 : UInt8) ∉ bodyC k ns := by
 intro h
 unfold bodyC at h
 rcases List.mem_append.1 h with h | h
 ·exact (kindW_no k).2.1 h
 ·obtain ⟨n, _, h⟩ := List.mem_flatMap.1 h
  rcases List.mem_cons.1 h with h | h
  ·exact absurd h (by decide)
  ·exact (itoa_all _ _ h).1 rfl
theorem body_ne (k : Nat) (ns : List Int) : bodyC k ns ≠ [] := by
 intro h
 exact (kindW_no k).2.2 (List.append_eq_nil_iff.1 h).1
def smallN (ns : List Int) : Prop := ∀ n ∈ ns, -1000000000 < n ∧ n < 1000000000
theorem ok_body {k : Nat} {ns : List Int} (h : smallN ns) (hl : ns.length = kindN k) : okLn readI k (bodyC k ns) = true ∧ numsL readI (bodyC k ns) = ns := by
  have hi : ∀ n ∈ ns, readI (bs (Lib.itoa n)) = (n, true) := fun n hn => by
    have := int_itoa (h n hn).1 (h n hn).2
    unfold readI
    rw [this.1, this.2]
  refine ⟨?_, ?_⟩
  · unfold okLn
    rw [split_body]
    simp only [List.headD_cons, List.tail_cons, List.length_map, hl, Bool.and_eq_true, beq_self_eq_true, true_and, List.all_eq_true]
    intro x hx
    obtain ⟨n, hn, rfl⟩ := List.mem_map.1 hx
    rw [hi n hn]
  · unfold numsL
    rw [split_body, List.tail_cons, List.map_map]
    calc ns.map _ = ns.map id := List.map_congr_left fun n hn => by
          show (readI (bs (Lib.itoa n))).1 = n
          rw [hi n hn]
      _ = ns := List.map_id _
theorem ok_inv {k : Nat} {w : List UInt8} (h : okLn readI k w = true) : w = bodyC k (numsL readI w) ∧ (numsL readI w).length = kindN k := by
 unfold okLn at h
 simp only [Bool.and_eq_true, List.all_eq_true, beq_iff_eq] at h
 obtain ⟨⟨h1, h2⟩, h3⟩ := h
 have hj := join_split 32 w
 have hne := splB_ne 32 w
 have en : ∀ x ∈ (splB 32 w).tail, x = Lib.itoa (intN (bs x)) := fun x hx => by
  obtain ⟨v, v0, v1, e⟩ := int_inv (h3 x hx)
  have e' : x = Lib.itoa v := congrArg (·.data.toList) e
  rw [e, (int_itoa v0 v1).2, e']
 refine ⟨?_, by unfold numsL; rw [List.length_map, h2]⟩
 unfold bodyC numsL
 cases hs : splB 32 w with
 | nil => exact absurd hs hne
 | cons a t =>
  rw [hs] at hj h1 en
  rw [join_flat] at hj
  rw [← hj, ← h1]
  show a ++ _ = a ++ _
  congr 1
  rw [List.flatMap_map]
  rw [List.flatMap_def, List.flatMap_def]
  congr 1
  exact List.map_congr_left fun x hx => by
   show (32 : UInt8) :: x = 32 :: Lib.itoa (intN (bs x))
   rw [← en x hx]
theorem nthL_len (c : Cab) (k : Nat) : (nthL c k).length = kindN k := by
 unfold nthL kindN
 split
 ·rfl
 split
 ·rfl
 ·rfl
theorem nthL_small {c : Cab} (hv : cabV c) (k : Nat) : smallN (nthL c k) := by
 have b1 := sec_bd hv (k / 2)
 have b2 := fac_bd hv (k / 2 - 1)
 have b3 := hv.2.2.2.2.2
 unfold nthL
 intro n hn
 split at hn
 ·simp only [List.mem_cons, List.not_mem_nil, or_false] at hn
  omega
 split at hn
 ·simp only [List.mem_cons, List.not_mem_nil, or_false] at hn
  omega
 ·simp only [List.mem_cons, List.not_mem_nil, or_false] at hn
  omega
theorem line_len {c : Cab} (hv : cabV c) (k : Nat) : (lnC c k).length ≤ 52 := by
 have hs := nthL_small hv k
 have hl := nthL_len c k
 have hk : kindN k ≤ 2 := by unfold kindN; split; omega; split <;> omega
 have hw : (kindW k).length ≤ 7 := by
  unfold kindW
  split
  ·decide
  split <;> decide
 unfold lnC bodyC
 generalize nthL c k = ns at *
 have key : ∀ ns : List Int, smallN ns → (ns.flatMap fun n => (32 : UInt8) :: Lib.itoa n).length ≤ 22 * ns.length := fun ns => by
  induction ns with
  | nil => intro _; simp
  | cons n r ih =>
   intro h
   have := ih fun x hx => h x (by simp [hx])
   have h1 := h n (by simp)
   have h2 := Lib.itoa_length_le n (by omega) (by omega)
   rw [List.flatMap_cons, List.length_append, List.length_cons, List.length_cons]
   omega
 have := key ns hs
 rw [List.length_append]
 omega
theorem outP_len {c : Cab} (hv : cabV c) : ∀ k, (outP c k).length ≤ 53 * k
 | 0 => by simp [outP]
 | k + 1 => by
  have h1 := outP_len hv k
  have h2 := line_len hv k
  rw [outP_succ, List.length_append, List.length_append]
  simp only [List.length_cons, List.length_nil]
  omega
theorem split_out (c : Cab) : ∀ (k : Nat) (r : List UInt8), splB 10 (outP c k ++ r) = (List.range k).map (lnC c) ++ splB 10 r
 | 0, r => rfl
 | k + 1, r => by
  rw [outP_succ, List.append_assoc, split_out c k, List.append_assoc, List.singleton_append, show lnC c k ++ 10 :: r = bodyC k (nthL c k) ++ 10 :: r from rfl, splB_app _ (body_no10 _ _), List.range_succ, List.map_append, List.append_assoc]
  rfl
def partC (c : Cab) (k : Nat) : Cab := if k = 0 then zeroC else (c.1.take (k / 2), c.2.1.take ((k - 1) / 2), c.2.2.1, c.2.2.2)
theorem part_succ {c : Cab} (hv : cabV c) {k : Nat} (h : k < 2 * c.1.length) : addC k (partC c k) (nthL c k) = partC c (k + 1) := by
 have hl := hv.2.2.2.1
 unfold addC partC nthL
 by_cases h0 : k = 0
 ·subst h0; rfl
 rw [if_neg h0, if_neg h0, if_neg h0, if_neg (Nat.succ_ne_zero k)]
 by_cases h1 : k % 2 = 1
 ·rw [if_pos h1, if_pos h1]
  have e1 : (k + 1) / 2 = k / 2 + 1 := by omega
  have e2 : (k + 1 - 1) / 2 = (k - 1) / 2 := by omega
  have hk : k / 2 < c.1.length := by omega
  have eg : c.1.getD (k / 2) (0, 0) = c.1[k / 2] := by rw [List.getD_eq_getElem?_getD, List.getElem?_eq_getElem hk]; rfl
  rw [e1, e2, List.take_succ_eq_append_getElem hk, eg]
  rfl
 ·rw [if_neg h1, if_neg h1]
  have e1 : (k + 1) / 2 = k / 2 := by omega
  have e2 : (k + 1 - 1) / 2 = (k - 1) / 2 + 1 := by omega
  have e3 : (k - 1) / 2 = k / 2 - 1 := by omega
  have hk : k / 2 - 1 < c.2.1.length := by omega
  have eg : c.2.1.getD (k / 2 - 1) 0 = c.2.1[k / 2 - 1] := by rw [List.getD_eq_getElem?_getD, List.getElem?_eq_getElem hk]; rfl
  rw [e1, e2, e3, List.take_succ_eq_append_getElem hk, eg]
  rfl
theorem parse_lines {c : Cab} (hv : cabV c) {L : List (List UInt8)} (hL : L ≠ []) : ∀ (m k : Nat), k + m ≤ 2 * c.1.length → parseC readI ((List.range' k m).map (lnC c) ++ L) k (partC c k) = parseC readI L (k + m) (partC c (k + m))
 | 0, k, _ => rfl
 | m + 1, k, h => by
  have ho := ok_body (k := k) (nthL_small hv k) (nthL_len c k)
  rw [List.range'_succ, List.map_cons, List.cons_append, parseC_cons _ (by simp [hL])]
  show (if okLn readI k (bodyC k (nthL c k)) = true then parseC readI _ (k + 1) (addC k (partC c k) (numsL readI (bodyC k (nthL c k)))) else _) = _
  rw [if_pos ho.1, ho.2, part_succ hv (by omega), parse_lines hv hL m (k + 1) (by omega)]
  rw [show k + 1 + m = k + (m + 1) by omega]
theorem part_full {c : Cab} (hv : cabV c) : partC c (2 * c.1.length) = c := by
 have h0 := hv.1
 have hl := hv.2.2.2.1
 unfold partC
 rw [if_neg (by omega), List.take_of_length_le (by omega), List.take_of_length_le (by omega)]
theorem parse_print {c : Cab} (hc : cabS c = 0) : parseT (bs (outP c (2 * c.1.length))) = (c, 0, 0) := by
 have hv := cabS_V hc
 have hl := hv.2.1
 have h0 := hv.1
 have hp := outP_len hv (2 * c.1.length)
 unfold parseT
 rw [if_neg (by rw [bs_size]; omega)]
 show parseC readI (splB 10 (outP c (2 * c.1.length))) 0 (partC c 0) = _
 have hs := split_out c (2 * c.1.length) []
 rw [List.append_nil] at hs
 rw [hs, List.range_eq_range', parse_lines hv (splB_ne _ _) _ 0 (by omega)]
 show finC (partC c (0 + 2 * c.1.length)) (0 + 2 * c.1.length) = _
 rw [Nat.zero_add, part_full hv]
 unfold finC
 rw [if_neg (by omega), if_pos hc]
theorem parse_less {c : Cab} (hc : cabS c = 0) : parseT ((bs (outP c (2 * c.1.length))).extract 0 ((bs (outP c (2 * c.1.length))).size - 1)) = ((zeroC, ((2 * c.1.length : Nat) : Int) - 1, 25) : Cab × Int × Int) := by
 have hv := cabS_V hc
 have hl := hv.2.1
 have h0 := hv.1
 have hp := outP_len hv (2 * c.1.length)
 obtain ⟨n, hn⟩ : ∃ n, 2 * c.1.length = n + 1 := ⟨2 * c.1.length - 1, by omega⟩
 have hi : ((2 * c.1.length : Nat) : Int) = ((n + 1 : Nat) : Int) := by rw [hn]
 have e : outP c (2 * c.1.length) = (outP c n ++ lnC c n) ++ [10] := by rw [hn, outP_succ, List.append_assoc]
 have ex : (bs (outP c (2 * c.1.length))).extract 0 ((bs (outP c (2 * c.1.length))).size - 1) = bs (outP c n ++ lnC c n) := by
  rw [ext_take, bs_size, e]
  have e2 : (bs ((outP c n ++ lnC c n) ++ [10])).data.toList = (outP c n ++ lnC c n) ++ [10] := rfl
  rw [e2]
  have el : ((outP c n ++ lnC c n) ++ [10]).length - 1 = (outP c n ++ lnC c n).length := by rw [List.length_append]; rfl
  rw [el, List.take_left]
 rw [ex]
 have hle : (outP c n ++ lnC c n).length ≤ 4096 := by
  have : (outP c (2 * c.1.length)).length = (outP c n ++ lnC c n).length + 1 := by rw [e, List.length_append]; rfl
  omega
 unfold parseT
 rw [if_neg (by rw [bs_size]; omega)]
 show parseC readI (splB 10 (outP c n ++ lnC c n)) 0 (partC c 0) = _
 rw [split_out, show splB 10 (lnC c n) = [lnC c n] from splB_none (body_no10 _ _), List.range_eq_range', parse_lines hv (by simp) _ 0 (by omega)]
 show (if lnC c n = [] then _ else (zeroC, (((0 + n : Nat)) : Int), (25 : Int))) = _
 rw [if_neg (show ¬ lnC c n = [] from body_ne _ _)]
 congr 2
 omega
def shapeC (k : Nat) (c : Cab) : Prop := c.1.length = k / 2 ∧ c.2.1.length = (k - 1) / 2
theorem getD_snoc {α : Type} (l : List α) (a d : α) : (l ++ [a]).getD l.length d = a := by
 rw [List.getD_eq_getElem?_getD, List.getElem?_append_right (Nat.le_refl _), Nat.sub_self]; rfl
theorem getD_app {α : Type} {l : List α} {j : Nat} (h : j < l.length) (r : List α) (d : α) : (l ++ r).getD j d = l.getD j d := by
 rw [List.getD_eq_getElem?_getD, List.getD_eq_getElem?_getD, List.getElem?_append_left h]
theorem add_shape {k : Nat} {c : Cab} (hs : shapeC k c) (ns : List Int) : shapeC (k + 1) (addC k c ns) := by
 obtain ⟨h1, h2⟩ := hs
 unfold addC shapeC
 split
 ·rename_i h; subst h; exact ⟨h1, h2⟩
 split
 ·refine ⟨?_, ?_⟩
  ·rw [List.length_append]; simp only [List.length_cons, List.length_nil]; omega
  ·show c.2.1.length = _
   omega
 ·refine ⟨?_, ?_⟩
  ·show c.1.length = _
   omega
  ·rw [List.length_append]; simp only [List.length_cons, List.length_nil]; omega
theorem two_of {ns : List Int} (h : ns.length = 2) : [ns.getD 0 0, ns.getD 1 0] = ns := by
 match ns, h with
 | [a, b], _ => rfl
theorem one_of {ns : List Int} (h : ns.length = 1) : [ns.getD 0 0] = ns := by
 match ns, h with
 | [a], _ => rfl
theorem nth_add {k : Nat} {c : Cab} (hs : shapeC k c) {ns : List Int} (hn : ns.length = kindN k) : nthL (addC k c ns) k = ns := by
 obtain ⟨h1, h2⟩ := hs
 unfold nthL addC
 unfold kindN at hn
 by_cases h0 : k = 0
 ·rw [if_pos h0, if_pos h0]
  rw [if_pos h0] at hn
  exact two_of hn
 rw [if_neg h0, if_neg h0]
 rw [if_neg h0] at hn
 by_cases ho : k % 2 = 1
 ·rw [if_pos ho, if_pos ho]
  rw [if_pos ho] at hn
  dsimp only
  rw [← h1, getD_snoc]
  exact two_of hn
 ·rw [if_neg ho, if_neg ho]
  rw [if_neg ho] at hn
  dsimp only
  rw [show k / 2 - 1 = c.2.1.length by omega, getD_snoc]
  exact one_of hn
theorem nth_keep {k : Nat} {c : Cab} (hs : shapeC k c) (ns : List Int) {j : Nat} (hj : j < k) : nthL (addC k c ns) j = nthL c j := by
 obtain ⟨h1, h2⟩ := hs
 unfold nthL addC
 have hk : ¬ k = 0 := by omega
 rw [if_neg hk]
 by_cases ho : k % 2 = 1
 ·rw [if_pos ho]
  dsimp only
  by_cases h0 : j = 0
  ·rw [if_pos h0, if_pos h0]
  rw [if_neg h0, if_neg h0]
  by_cases hp : j % 2 = 1
  ·rw [if_pos hp, if_pos hp, getD_app (by omega)]
  ·rw [if_neg hp, if_neg hp]
 ·rw [if_neg ho]
  dsimp only
  by_cases h0 : j = 0
  ·rw [if_pos h0, if_pos h0]
  rw [if_neg h0, if_neg h0]
  by_cases hp : j % 2 = 1
  ·rw [if_pos hp, if_pos hp]
  ·rw [if_neg hp, if_neg hp, getD_app (by omega)]
theorem out_keep {k : Nat} {c : Cab} (hs : shapeC k c) (ns : List Int) : ∀ j, j ≤ k → outP (addC k c ns) j = outP c j
 | 0, _ => rfl
 | j + 1, h => by
  rw [outP_succ, outP_succ, out_keep hs ns j (by omega)]
  unfold lnC
  rw [nth_keep hs ns (by omega)]
theorem fin_inv {k : Nat} {c : Cab} (hs : shapeC k c) (h : (finC c k).2.2 = 0) : (finC c k).1 = c ∧ cabS c = 0 ∧ k = 2 * c.1.length := by
 unfold finC at h ⊢
 by_cases h1 : k = 0 ∨ 1 < k ∧ k % 2 = 1
 ·rw [if_pos h1] at h; exact absurd (show (25 : Int) = 0 from h) (by decide)
 rw [if_neg h1] at h ⊢
 by_cases h2 : cabS c = 0
 ·rw [if_pos h2]
  have hv := cabS_V h2
  have h0 := hv.1
  obtain ⟨a1, a2⟩ := hs
  exact ⟨rfl, h2, by omega⟩
 ·rw [if_neg h2] at h; exact absurd h h2
theorem parse_inv : ∀ (L : List (List UInt8)) (k : Nat) (c : Cab), L ≠ [] → shapeC k c → (parseC readI L k c).2.2 = 0 → cabS (parseC readI L k c).1 = 0 ∧ outP (parseC readI L k c).1 (2 * (parseC readI L k c).1.1.length) = outP c k ++ joinC 10 L
 | [], _, _, h, _, _ => absurd rfl h
 | [w], k, c, _, hs, h => by
  by_cases hw : w = []
  ·have e : parseC readI [w] k c = finC c k := by simp only [parseC, if_pos hw]
   rw [e] at h ⊢
   obtain ⟨a1, a2, a3⟩ := fin_inv hs h
   rw [a1, ← a3, hw]
   exact ⟨a2, by simp [joinC]⟩
  ·have e : parseC readI [w] k c = ((zeroC, (k : Int), 25) : Cab × Int × Int) := by simp only [parseC, if_neg hw]
   rw [e] at h; exact absurd (show (25 : Int) = 0 from h) (by decide)
 | w :: a :: r, k, c, _, hs, h => by
  rw [parseC_cons readI (w := w) (by simp)] at h ⊢
  by_cases hp : okLn readI k w = true
  ·rw [if_pos hp] at h ⊢
   obtain ⟨b1, b2⟩ := ok_inv hp
   obtain ⟨h1, h2⟩ := parse_inv (a :: r) (k + 1) _ (by simp) (add_shape hs _) h
   refine ⟨h1, ?_⟩
   rw [h2, outP_succ, out_keep hs _ k (Nat.le_refl _), joinC_cons 10 w (r := a :: r) (by simp)]
   unfold lnC
   rw [nth_add hs b2, ← b1]
   simp
  ·rw [if_neg hp] at h; exact absurd (show (25 : Int) = 0 from h) (by decide)
theorem parse_back {s : ByteArray} (h : (parseT s).2.2 = 0) : cabS (parseT s).1 = 0 ∧ bs (outP (parseT s).1 (2 * (parseT s).1.1.length)) = s := by
 unfold parseT at h ⊢
 by_cases hs : 4096 < s.size
 ·rw [if_pos hs] at h; exact absurd h (by decide)
 ·rw [if_neg hs] at h ⊢
  obtain ⟨h1, h2⟩ := parse_inv _ 0 zeroC (splB_ne _ _) ⟨rfl, rfl⟩ h
  refine ⟨h1, ?_⟩
  rw [h2, join_split]
  rfl
theorem joinS_nums (h : List UInt8) : ∀ ns : List Int, (joinS (bs h :: ns.map itoaS) ⟨#[32]⟩).data.toList = h ++ ns.flatMap fun n => 32 :: Lib.itoa n := by
 intro ns
 show Lib.join (h :: (ns.map itoaS).map (·.data.toList)) [32] = _
 rw [Lib.join_cons, List.map_map]
 congr 1
 induction ns with
 | nil => rfl
 | cons n r ih =>
  show (32 : UInt8) :: (Lib.itoa n ++ Lib.joinTail [32] (r.map _)) = _
  rw [ih]; rfl
theorem lineS_nums (h : List UInt8) (ns : List Int) : (lineS (bs h :: ns.map itoaS)).data.toList = h ++ (ns.flatMap fun n => 32 :: Lib.itoa n) ++ [10] := by
 unfold lineS
 rw [ByteArray.data_append, Array.toList_append, joinS_nums]
theorem head_line (c : Cab) : (headL c).data.toList = lnC c 0 ++ [10] := lineS_nums [99, 97, 98, 108, 101] [c.2.2.1, c.2.2.2]
theorem sec_line (c : Cab) (k : Nat) : (secL (c.1.getD k (0, 0))).data.toList = lnC c (2 * k + 1) ++ [10] := by
 have e := lineS_nums [115, 101, 99, 116, 105, 111, 110] [(c.1.getD k (0, 0)).1, (c.1.getD k (0, 0)).2]
 have e2 : lnC c (2 * k + 1) = [115, 101, 99, 116, 105, 111, 110] ++ [(c.1.getD k (0, 0)).1, (c.1.getD k (0, 0)).2].flatMap fun n => 32 :: Lib.itoa n := by
  unfold lnC bodyC kindW nthL
  rw [if_neg (by omega), if_pos (by omega), if_neg (by omega), if_pos (by omega), show (2 * k + 1) / 2 = k by omega]
 rw [e2]; exact e
theorem joint_line (c : Cab) {k : Nat} (h : 0 < k) : (jointL (c.2.1.getD (k - 1) 0)).data.toList = lnC c (2 * k) ++ [10] := by
 have e := lineS_nums [106, 111, 105, 110, 116] [c.2.1.getD (k - 1) 0]
 have e2 : lnC c (2 * k) = [106, 111, 105, 110, 116] ++ [c.2.1.getD (k - 1) 0].flatMap fun n => 32 :: Lib.itoa n := by
  unfold lnC bodyC kindW nthL
  rw [if_neg (by omega), if_neg (by omega), if_neg (by omega), if_neg (by omega), show 2 * k / 2 = k by omega]
 rw [e2]; exact e
theorem outN_P (c : Cab) : ∀ k, (outN c k).data.toList = if k = 0 then outP c 1 else outP c (2 * k)
 | 0 => by
  show (headL c).data.toList = _
  rw [head_line, if_pos rfl, outP_succ]; rfl
 | k + 1 => by
  have ih := outN_P c k
  have e : outP c (2 * (k + 1)) = outP c (2 * k) ++ (lnC c (2 * k) ++ [10]) ++ (lnC c (2 * k + 1) ++ [10]) := by
   rw [show 2 * (k + 1) = 2 * k + 1 + 1 by omega, outP_succ, outP_succ]
  rw [if_neg (Nat.succ_ne_zero k), e]
  unfold outN
  rw [ByteArray.data_append, Array.toList_append, sec_line]
  by_cases h : k = 0
  ·rw [if_pos h]
   rw [if_pos h] at ih
   rw [ih]
   subst h
   rw [show outP c 1 = outP c (2 * 0) ++ (lnC c (2 * 0) ++ [10]) from outP_succ c 0]
  ·rw [if_neg h, ByteArray.data_append, Array.toList_append, joint_line c (by omega), ih, if_neg h]
theorem printS_eq {c : Cab} (h : 0 < c.1.length) : printS c = bs (outP c (2 * c.1.length)) := by
 have := outN_P c c.1.length
 rw [if_neg (by omega)] at this
 rw [← this]; rfl
set_option maxHeartbeats 20000000
def outR (c : Cab) (k : Nat) : ByteArray := bs (outP c (if k = 0 then 1 else 2 * k))
abbrev G143 : Gam := G142
theorem g143 : GamOk Tryz.prog G143 := g142
abbrev G144 : Gam := G143
theorem g144 : GamOk Tryz.prog G144 := g143
abbrev G145 : Gam := G144
theorem g145 : GamOk Tryz.prog G145 := g144
set_option maxHeartbeats 20000000
abbrev sForm : Sch := .prod .str .fnc
def wCable : ByteArray := ⟨⟨[99, 97, 98, 108, 101]⟩⟩
def wSection : ByteArray := ⟨⟨[115, 101, 99, 116, 105, 111, 110]⟩⟩
def wJoint : ByteArray := ⟨⟨[106, 111, 105, 110, 116]⟩⟩
abbrev formsL : List (Int × ByteArray × Option Nat) := [(0, wCable, some 164), (1, wSection, some 166), (2, wJoint, some 167)]
def cParseC : Con := { args := [taS], ress := [(true, sCab 166), I, I], owns := [], pre := fun _ => [], spec := fun (s, _) => ((parseT s).1, (parseT s).2.1, (parseT s).2.2, ()) }
abbrev annPa (s : ByteArray) : Ann := { X := ByteArray × Nat × Cab, σ := fun p => ⟨15, [(0, .one (.fv 11)), (1, .one (.ptr 9 0))], [(0, .box 37 [.val (.slice none 0 0), .val (.slice none 0 0), .int .i64 0, .int .i64 0]), (1, .box 3 [.int .i64 0]), (2, .box 32 [.int .i64 0]), (3, .box 37 [.sl 13, .sl 14, .int .i64 p.2.2.2.2.1, .int .i64 p.2.2.2.2.2]), (4, .box 3 [.int .i64 p.2.1]), (6, .mp 3 false true (.int .i64) sForm formsL), (7, .box 223 [.sl 6]), (9, .box 9 [.str p.1]), (11, .yld .ready), (12, .sus [(2, .one (.ptr 0 0)), (3, .one (.ptr 1 0)), (4, .one (.ptr 2 0)), (5, .one (.ptr 3 0)), (6, .one (.ptr 4 0)), (7, .one (.ptr 7 0))]), (13, .own 166 sPt p.2.2.1), (14, .own 3 sI p.2.2.2.1)]⟩, inv := fun p => s.size ≤ 4096 ∧ p.1.size + p.2.1 ≤ s.size ∧ p.2.2.1.length ≤ p.2.1 ∧ p.2.2.2.1.length ≤ p.2.1 ∧ parseT s = parseC readI (splB 10 p.1.data.toList) p.2.1 p.2.2, mu := fun p => p.1.size }
def eB (s : ByteArray) : Bool := atoE s
theorem wB1 (x : ByteArray) : (bif (bif eB x then true else decide ((9 : Int) < ((trimP x ⟨⟨[45]⟩⟩).size : Nat))) then true else !((itoaS (intN x)).toList == x.toList)) = !intB x := by
 unfold eB atoE intB intN
 have e : minus = ⟨⟨[45]⟩⟩ := rfl
 rw [e]
 cases Lib.atoiAll x.data.toList with
 | ok v =>
  dsimp only
  have e2 : decide ((9 : Int) < ((trimP x ⟨⟨[45]⟩⟩).size : Nat)) = !decide ((((trimP x ⟨⟨[45]⟩⟩).size : Nat) : Int) ≤ 9) := by
   rw [Bool.eq_iff_iff]; simp
  rw [e2]
  cases (itoaS v).toList == x.toList <;> cases decide ((((trimP x ⟨⟨[45]⟩⟩).size : Nat) : Int) ≤ 9) <;> rfl
 | range => rfl
 | _ => rfl
theorem wB2 (w : Bool) (y : ByteArray) : (bif (bif (bif w then true else eB y) then true else decide ((9 : Int) < ((trimP y ⟨⟨[45]⟩⟩).size : Nat))) then true else !((itoaS (intN y)).toList == y.toList)) = (bif w then true else !intB y) := by
 rw [← wB1 y]
 cases w <;> rfl
theorem intN_rng (s : ByteArray) : -9223372036854775808 ≤ intN s ∧ intN s ≤ 9223372036854775807 := by
 unfold intN
 cases h : Lib.atoiAll s.data.toList with
 | ok v =>
  have := Lib.atoiAll_bounds h
  dsimp only
  omega
 | range =>
  dsimp only
  unfold Lib.atoiSat
  split <;> omega
 | _ => dsimp only; omega
theorem dtl (T : List ByteArray) : List.drop 1 (List.take T.length T) = T.tail := by rw [List.take_length, List.drop_one]
theorem bad3 {x y z : Bool} {n : Nat} : (bif (bif !x then true else (bif !y then true else !z)) then true else decide ((0 : Int) < (n : Nat))) = !(x && (n == 0) && (y && z)) := by
 have e : decide ((0 : Int) < (n : Nat)) = !(n == 0) := by
  rw [Bool.eq_iff_iff]; simp; omega
 rw [e]
 cases x <;> cases y <;> cases z <;> cases n == 0 <;> rfl
theorem bad2 {x y : Bool} {n : Nat} : (bif (bif !x then true else !y) then true else decide ((0 : Int) < (n : Nat))) = !(x && (n == 0) && y) := by
 have e : decide ((0 : Int) < (n : Nat)) = !(n == 0) := by
  rw [Bool.eq_iff_iff]; simp; omega
 rw [e]
 cases x <;> cases y <;> cases n == 0 <;> rfl
def vc77_0 (s : ByteArray) (x : ByteArray × Nat × Cab) := (List.drop (1 : Nat) (List.take (List.length (wordsS (cutSuf (ByteArray.extract x.1 (0 : Nat) (Int.toNat (indexF x.1 (10 : Int) + (1 : Int)))) (ByteArray.mk (Array.mk [(10 : UInt8)]))) (ByteArray.mk (Array.mk [(32 : UInt8)])))) (wordsS (cutSuf (ByteArray.extract x.1 (0 : Nat) (Int.toNat (indexF x.1 (10 : Int) + (1 : Int)))) (ByteArray.mk (Array.mk [(10 : UInt8)]))) (ByteArray.mk (Array.mk [(32 : UInt8)])))))
def vc77_1 (s : ByteArray) (x : ByteArray × Nat × Cab) := (List.drop (1 : Nat) (List.take (List.length (wordsS (cutSuf x.1 (ByteArray.mk (Array.mk [(10 : UInt8)]))) (ByteArray.mk (Array.mk [(32 : UInt8)])))) (wordsS (cutSuf x.1 (ByteArray.mk (Array.mk [(10 : UInt8)]))) (ByteArray.mk (Array.mk [(32 : UInt8)])))))
def vc77_2 (s : ByteArray) (y : ByteArray × Nat × List (Int × Int) × List Int × Int × Int) := (ByteArray.size s ≤ (4096 : Nat) ∧ ByteArray.size y.1 + y.2.1 ≤ ByteArray.size s ∧ List.length y.2.2.1 ≤ y.2.1 ∧ List.length y.2.2.2.1 ≤ y.2.1 ∧ parseT s = parseC readI (splB (10 : UInt8) y.1.data.toList) y.2.1 y.2.2)
def vc77_3 (s : ByteArray) (x : ByteArray × Nat × Cab) := (wordsS (cutSuf (ByteArray.extract x.1 (0 : Nat) (Int.toNat (indexF x.1 (10 : Int) + (1 : Int)))) (ByteArray.mk (Array.mk [(10 : UInt8)]))) (ByteArray.mk (Array.mk [(32 : UInt8)])))
def vc77_4 (s : ByteArray) (x : ByteArray × Nat × Cab) := (List.getD (vc77_0 s x) (0 : Nat) (ByteArray.mk (Array.mk [])))
def vc77_5 (s : ByteArray) (x : ByteArray × Nat × Cab) := (List.getD (vc77_1 s x) (0 : Nat) (ByteArray.mk (Array.mk [])))
def vc77_6 (s : ByteArray) (x : ByteArray × Nat × Cab) := (List.getD (List.drop (1 : Nat) (List.take (List.length (vc77_0 s x)) (vc77_0 s x))) (0 : Nat) (ByteArray.mk (Array.mk [])))
def vc77_7 (s : ByteArray) (x : ByteArray × Nat × Cab) := (List.getD (List.drop (1 : Nat) (List.take (List.length (vc77_1 s x)) (vc77_1 s x))) (0 : Nat) (ByteArray.mk (Array.mk [])))
def vc77_8 (s : ByteArray) (x : ByteArray × Nat × Cab) := (wordsS (cutSuf x.1 (ByteArray.mk (Array.mk [(10 : UInt8)]))) (ByteArray.mk (Array.mk [(32 : UInt8)])))
def vc77_9 (s : ByteArray) (x : ByteArray × Nat × Cab) := ((!hasSuf (ByteArray.extract x.1 (0 : Nat) (Int.toNat (indexF x.1 (10 : Int) + (1 : Int)))) (ByteArray.mk (Array.mk [(10 : UInt8)]))) = false → (0 : Int) ≤ (0 : Int) ∧ (0 : Int) < (↑(List.length (vc77_3 s x)) : Int))
def vc77_10 (s : ByteArray) (x : ByteArray × Nat × Cab) := (true = true → true = true ∧ ([], [], (0 : Int), (0 : Int)) = (parseT s).1 ∧ (↑x.2.1 : Int) = (parseT s).2.1 ∧ (25 : Int) = (parseT s).2.2)
def vc77_11 (s : ByteArray) (x : ByteArray × Nat × Cab) := (((↑x.2.1 : Int) + (1 : Int) == (0 : Int)) = false ∧ decide ((1 : Int) < (↑x.2.1 : Int) + (1 : Int)) = true → (2 : Int) = (0 : Int) → False)
def vc77_12 (s : ByteArray) (x : ByteArray × Nat × Cab) := (((!hasSuf x.1 (ByteArray.mk (Array.mk [(10 : UInt8)]))) = false → (0 : Int) ≤ (0 : Int) ∧ (0 : Int) < (↑(List.length (vc77_8 s x)) : Int)) ∧ ((!hasSuf x.1 (ByteArray.mk (Array.mk [(10 : UInt8)]))) = false → (0 : Int) ≤ (0 : Int) ∧ (0 : Int) < (↑(List.length (vc77_8 s x)) : Int)))
def vc77_13 (s : ByteArray) (x : ByteArray × Nat × Cab) := ((-9223372036854775808 : Int) ≤ (↑x.2.1 : Int) + (1 : Int) ∧ (↑x.2.1 : Int) + (1 : Int) ≤ (9223372036854775807 : Int))
def vc77_14 (s : ByteArray) (x : ByteArray × Nat × Cab) := (List.length (List.drop (1 : Nat) (List.take (List.length (vc77_0 s x)) (vc77_0 s x))))
def vc77_15 (s : ByteArray) (x : ByteArray × Nat × Cab) := (List.length (List.drop (1 : Nat) (List.take (List.length (vc77_1 s x)) (vc77_1 s x))))
def vc77_16 (s : ByteArray) (x : ByteArray × Nat × Cab) := (false = true → ((vc77_11 s x) ∧ List.length (x.2.2.1 ++ [((0 : Int), (0 : Int))]) ≤ (1000000 : Nat) ∧ List.length x.2.2.2.1 ≤ (1000000 : Nat) ∧ (2 : Nat) ≤ (1000000 : Nat)) ∧ ((firstS [bif bif (↑x.2.1 : Int) + (1 : Int) == (0 : Int) then true else bif decide ((1 : Int) < (↑x.2.1 : Int) + (1 : Int)) then Int.tmod ((↑x.2.1 : Int) + (1 : Int)) (2 : Int) == (1 : Int) else false then (25 : Int) else (0 : Int), cabS (x.2.2.1 ++ [((0 : Int), (0 : Int))], x.2.2.2.1, x.2.2.2.2.1, x.2.2.2.2.2)] != (0 : Int)) = true → true = true ∧ ([], [], (0 : Int), (0 : Int)) = (parseT s).1 ∧ (↑x.2.1 : Int) + (1 : Int) = (parseT s).2.1 ∧ firstS [bif bif (↑x.2.1 : Int) + (1 : Int) == (0 : Int) then true else bif decide ((1 : Int) < (↑x.2.1 : Int) + (1 : Int)) then Int.tmod ((↑x.2.1 : Int) + (1 : Int)) (2 : Int) == (1 : Int) else false then (25 : Int) else (0 : Int), cabS (x.2.2.1 ++ [((0 : Int), (0 : Int))], x.2.2.2.1, x.2.2.2.2.1, x.2.2.2.2.2)] = (parseT s).2.2) ∧ ((firstS [bif bif (↑x.2.1 : Int) + (1 : Int) == (0 : Int) then true else bif decide ((1 : Int) < (↑x.2.1 : Int) + (1 : Int)) then Int.tmod ((↑x.2.1 : Int) + (1 : Int)) (2 : Int) == (1 : Int) else false then (25 : Int) else (0 : Int), cabS (x.2.2.1 ++ [((0 : Int), (0 : Int))], x.2.2.2.1, x.2.2.2.2.1, x.2.2.2.2.2)] != (0 : Int)) = false → true = true ∧ (x.2.2.1 ++ [((0 : Int), (0 : Int))], x.2.2.2.1, x.2.2.2.2.1, x.2.2.2.2.2) = (parseT s).1 ∧ (0 : Int) = (parseT s).2.1 ∧ (0 : Int) = (parseT s).2.2))
def vc77_17 (s : ByteArray) (x : ByteArray × Nat × Cab) := (false = true → ((vc77_11 s x) ∧ List.length x.2.2.1 ≤ (1000000 : Nat) ∧ List.length (x.2.2.2.1 ++ [(0 : Int)]) ≤ (1000000 : Nat) ∧ (2 : Nat) ≤ (1000000 : Nat)) ∧ ((firstS [bif bif (↑x.2.1 : Int) + (1 : Int) == (0 : Int) then true else bif decide ((1 : Int) < (↑x.2.1 : Int) + (1 : Int)) then Int.tmod ((↑x.2.1 : Int) + (1 : Int)) (2 : Int) == (1 : Int) else false then (25 : Int) else (0 : Int), cabS (x.2.2.1, x.2.2.2.1 ++ [(0 : Int)], x.2.2.2.2.1, x.2.2.2.2.2)] != (0 : Int)) = true → true = true ∧ ([], [], (0 : Int), (0 : Int)) = (parseT s).1 ∧ (↑x.2.1 : Int) + (1 : Int) = (parseT s).2.1 ∧ firstS [bif bif (↑x.2.1 : Int) + (1 : Int) == (0 : Int) then true else bif decide ((1 : Int) < (↑x.2.1 : Int) + (1 : Int)) then Int.tmod ((↑x.2.1 : Int) + (1 : Int)) (2 : Int) == (1 : Int) else false then (25 : Int) else (0 : Int), cabS (x.2.2.1, x.2.2.2.1 ++ [(0 : Int)], x.2.2.2.2.1, x.2.2.2.2.2)] = (parseT s).2.2) ∧ ((firstS [bif bif (↑x.2.1 : Int) + (1 : Int) == (0 : Int) then true else bif decide ((1 : Int) < (↑x.2.1 : Int) + (1 : Int)) then Int.tmod ((↑x.2.1 : Int) + (1 : Int)) (2 : Int) == (1 : Int) else false then (25 : Int) else (0 : Int), cabS (x.2.2.1, x.2.2.2.1 ++ [(0 : Int)], x.2.2.2.2.1, x.2.2.2.2.2)] != (0 : Int)) = false → true = true ∧ (x.2.2.1, x.2.2.2.1 ++ [(0 : Int)], x.2.2.2.2.1, x.2.2.2.2.2) = (parseT s).1 ∧ (0 : Int) = (parseT s).2.1 ∧ (0 : Int) = (parseT s).2.2))
def vc77_18 (s : ByteArray) (x : ByteArray × Nat × Cab) := (ByteArray.extract x.1 (0 : Nat) (Int.toNat (indexF x.1 (10 : Int) + (1 : Int))))
def vc77_19 (s : ByteArray) (x : ByteArray × Nat × Cab) := (false = true → ((vc77_11 s x) ∧ List.length x.2.2.1 ≤ (1000000 : Nat) ∧ List.length x.2.2.2.1 ≤ (1000000 : Nat) ∧ (2 : Nat) ≤ (1000000 : Nat)) ∧ ((firstS [bif bif (↑x.2.1 : Int) + (1 : Int) == (0 : Int) then true else bif decide ((1 : Int) < (↑x.2.1 : Int) + (1 : Int)) then Int.tmod ((↑x.2.1 : Int) + (1 : Int)) (2 : Int) == (1 : Int) else false then (25 : Int) else (0 : Int), cabS (x.2.2.1, x.2.2.2.1, (0 : Int), (0 : Int))] != (0 : Int)) = true → true = true ∧ ([], [], (0 : Int), (0 : Int)) = (parseT s).1 ∧ (↑x.2.1 : Int) + (1 : Int) = (parseT s).2.1 ∧ firstS [bif bif (↑x.2.1 : Int) + (1 : Int) == (0 : Int) then true else bif decide ((1 : Int) < (↑x.2.1 : Int) + (1 : Int)) then Int.tmod ((↑x.2.1 : Int) + (1 : Int)) (2 : Int) == (1 : Int) else false then (25 : Int) else (0 : Int), cabS (x.2.2.1, x.2.2.2.1, (0 : Int), (0 : Int))] = (parseT s).2.2) ∧ ((firstS [bif bif (↑x.2.1 : Int) + (1 : Int) == (0 : Int) then true else bif decide ((1 : Int) < (↑x.2.1 : Int) + (1 : Int)) then Int.tmod ((↑x.2.1 : Int) + (1 : Int)) (2 : Int) == (1 : Int) else false then (25 : Int) else (0 : Int), cabS (x.2.2.1, x.2.2.2.1, (0 : Int), (0 : Int))] != (0 : Int)) = false → true = true ∧ (x.2.2.1, x.2.2.2.1, (0 : Int), (0 : Int)) = (parseT s).1 ∧ (0 : Int) = (parseT s).2.1 ∧ (0 : Int) = (parseT s).2.2))
def vc77_20 (s : ByteArray) := (Option.getD (mpGet (Sch.int IntKind.i64) (1 : Int) formsL) (ByteArray.mk (Array.mk []), none))
def vc77_21 (s : ByteArray) := (Option.getD (mpGet (Sch.int IntKind.i64) (0 : Int) formsL) (ByteArray.mk (Array.mk []), none))
def vc77_22 (s : ByteArray) (x : ByteArray × Nat × Cab) := (((bif bif bif bif false then true else atoE (vc77_4 s x) then true else decide ((9 : Int) < (↑(ByteArray.size (trimP (vc77_4 s x) (ByteArray.mk (Array.mk [(45 : UInt8)])))) : Int)) then true else !ByteArray.toList (itoaS (atoN (vc77_4 s x))) == ByteArray.toList (vc77_4 s x) then true else atoE (vc77_6 s x)) = false → ByteArray.size (vc77_6 s x) ≤ (1000000 : Nat)) ∧ ((bif bif bif bif false then true else atoE (vc77_4 s x) then true else decide ((9 : Int) < (↑(ByteArray.size (trimP (vc77_4 s x) (ByteArray.mk (Array.mk [(45 : UInt8)])))) : Int)) then true else !ByteArray.toList (itoaS (atoN (vc77_4 s x))) == ByteArray.toList (vc77_4 s x) then true else atoE (vc77_6 s x)) = false → (1 : Nat) ≤ (1000000 : Nat)) ∧ ((bif bif bif bif bif false then true else atoE (vc77_4 s x) then true else decide ((9 : Int) < (↑(ByteArray.size (trimP (vc77_4 s x) (ByteArray.mk (Array.mk [(45 : UInt8)])))) : Int)) then true else !ByteArray.toList (itoaS (atoN (vc77_4 s x))) == ByteArray.toList (vc77_4 s x) then true else atoE (vc77_6 s x) then true else decide ((9 : Int) < (↑(ByteArray.size (trimP (vc77_6 s x) (ByteArray.mk (Array.mk [(45 : UInt8)])))) : Int))) = false → (-9223372036854775808 : Int) ≤ atoN (vc77_6 s x) ∧ atoN (vc77_6 s x) ≤ (9223372036854775807 : Int)))
def vc77_23 (s : ByteArray) (x : ByteArray × Nat × Cab) := (((bif bif bif bif false then true else atoE (vc77_5 s x) then true else decide ((9 : Int) < (↑(ByteArray.size (trimP (vc77_5 s x) (ByteArray.mk (Array.mk [(45 : UInt8)])))) : Int)) then true else !ByteArray.toList (itoaS (atoN (vc77_5 s x))) == ByteArray.toList (vc77_5 s x) then true else atoE (vc77_7 s x)) = false → ByteArray.size (vc77_7 s x) ≤ (1000000 : Nat)) ∧ ((bif bif bif bif false then true else atoE (vc77_5 s x) then true else decide ((9 : Int) < (↑(ByteArray.size (trimP (vc77_5 s x) (ByteArray.mk (Array.mk [(45 : UInt8)])))) : Int)) then true else !ByteArray.toList (itoaS (atoN (vc77_5 s x))) == ByteArray.toList (vc77_5 s x) then true else atoE (vc77_7 s x)) = false → (1 : Nat) ≤ (1000000 : Nat)) ∧ ((bif bif bif bif bif false then true else atoE (vc77_5 s x) then true else decide ((9 : Int) < (↑(ByteArray.size (trimP (vc77_5 s x) (ByteArray.mk (Array.mk [(45 : UInt8)])))) : Int)) then true else !ByteArray.toList (itoaS (atoN (vc77_5 s x))) == ByteArray.toList (vc77_5 s x) then true else atoE (vc77_7 s x) then true else decide ((9 : Int) < (↑(ByteArray.size (trimP (vc77_7 s x) (ByteArray.mk (Array.mk [(45 : UInt8)])))) : Int))) = false → (-9223372036854775808 : Int) ≤ atoN (vc77_7 s x) ∧ atoN (vc77_7 s x) ≤ (9223372036854775807 : Int)))
def vc77_24 (s : ByteArray) := (ByteArray.mk (Array.mk [(10 : UInt8)]))
def vc77_25 (s : ByteArray) (x : ByteArray × Nat × Cab) := (List.getD (vc77_3 s x) (0 : Nat) (ByteArray.mk (Array.mk [])))
def vc77_26 (s : ByteArray) (x : ByteArray × Nat × Cab) := (List.getD (vc77_8 s x) (0 : Nat) (ByteArray.mk (Array.mk [])))
def vc77_27 (s : ByteArray) (x : ByteArray × Nat × Cab) := (((bif false then true else atoE (vc77_4 s x)) = false → ByteArray.size (vc77_4 s x) ≤ (1000000 : Nat)) ∧ ((bif false then true else atoE (vc77_4 s x)) = false → (1 : Nat) ≤ (1000000 : Nat)) ∧ ((bif bif false then true else atoE (vc77_4 s x) then true else decide ((9 : Int) < (↑(ByteArray.size (trimP (vc77_4 s x) (ByteArray.mk (Array.mk [(45 : UInt8)])))) : Int))) = false → (-9223372036854775808 : Int) ≤ atoN (vc77_4 s x) ∧ atoN (vc77_4 s x) ≤ (9223372036854775807 : Int)))
def vc77_28 (s : ByteArray) (x : ByteArray × Nat × Cab) := (((bif false then true else atoE (vc77_5 s x)) = false → ByteArray.size (vc77_5 s x) ≤ (1000000 : Nat)) ∧ ((bif false then true else atoE (vc77_5 s x)) = false → (1 : Nat) ≤ (1000000 : Nat)) ∧ ((bif bif false then true else atoE (vc77_5 s x) then true else decide ((9 : Int) < (↑(ByteArray.size (trimP (vc77_5 s x) (ByteArray.mk (Array.mk [(45 : UInt8)])))) : Int))) = false → (-9223372036854775808 : Int) ≤ atoN (vc77_5 s x) ∧ atoN (vc77_5 s x) ≤ (9223372036854775807 : Int)))
def vc77_29 (s : ByteArray) (x : ByteArray × Nat × Cab) := (bif bif bif !hasSuf (vc77_18 s x) (vc77_24 s) then true else !ByteArray.toList (vc77_25 s x) == ByteArray.toList (vc77_20 s).1 then true else bif bif bif bif bif bif false then true else atoE (vc77_4 s x) then true else decide ((9 : Int) < (↑(ByteArray.size (trimP (vc77_4 s x) (ByteArray.mk (Array.mk [(45 : UInt8)])))) : Int)) then true else !ByteArray.toList (itoaS (atoN (vc77_4 s x))) == ByteArray.toList (vc77_4 s x) then true else atoE (vc77_6 s x) then true else decide ((9 : Int) < (↑(ByteArray.size (trimP (vc77_6 s x) (ByteArray.mk (Array.mk [(45 : UInt8)])))) : Int)) then true else !ByteArray.toList (itoaS (atoN (vc77_6 s x))) == ByteArray.toList (vc77_6 s x) then true else decide ((0 : Int) < (↑(List.length (List.drop (1 : Nat) (List.take (vc77_14 s x) (List.drop (1 : Nat) (List.take (List.length (vc77_0 s x)) (vc77_0 s x)))))) : Int)))
def vc77_30 (s : ByteArray) (x : ByteArray × Nat × Cab) := (bif bif bif !hasSuf (vc77_18 s x) (vc77_24 s) then true else !ByteArray.toList (vc77_25 s x) == ByteArray.toList (vc77_21 s).1 then true else bif bif bif bif bif bif false then true else atoE (vc77_4 s x) then true else decide ((9 : Int) < (↑(ByteArray.size (trimP (vc77_4 s x) (ByteArray.mk (Array.mk [(45 : UInt8)])))) : Int)) then true else !ByteArray.toList (itoaS (atoN (vc77_4 s x))) == ByteArray.toList (vc77_4 s x) then true else atoE (vc77_6 s x) then true else decide ((9 : Int) < (↑(ByteArray.size (trimP (vc77_6 s x) (ByteArray.mk (Array.mk [(45 : UInt8)])))) : Int)) then true else !ByteArray.toList (itoaS (atoN (vc77_6 s x))) == ByteArray.toList (vc77_6 s x) then true else decide ((0 : Int) < (↑(List.length (List.drop (1 : Nat) (List.take (vc77_14 s x) (List.drop (1 : Nat) (List.take (List.length (vc77_0 s x)) (vc77_0 s x)))))) : Int)))
def vc77_31 (s : ByteArray) (x : ByteArray × Nat × Cab) := (bif bif bif !hasSuf x.1 (vc77_24 s) then true else !ByteArray.toList (vc77_26 s x) == ByteArray.toList (vc77_20 s).1 then true else bif bif bif bif bif bif false then true else atoE (vc77_5 s x) then true else decide ((9 : Int) < (↑(ByteArray.size (trimP (vc77_5 s x) (ByteArray.mk (Array.mk [(45 : UInt8)])))) : Int)) then true else !ByteArray.toList (itoaS (atoN (vc77_5 s x))) == ByteArray.toList (vc77_5 s x) then true else atoE (vc77_7 s x) then true else decide ((9 : Int) < (↑(ByteArray.size (trimP (vc77_7 s x) (ByteArray.mk (Array.mk [(45 : UInt8)])))) : Int)) then true else !ByteArray.toList (itoaS (atoN (vc77_7 s x))) == ByteArray.toList (vc77_7 s x) then true else decide ((0 : Int) < (↑(List.length (List.drop (1 : Nat) (List.take (vc77_15 s x) (List.drop (1 : Nat) (List.take (List.length (vc77_1 s x)) (vc77_1 s x)))))) : Int)))
def vc77_32 (s : ByteArray) (x : ByteArray × Nat × Cab) := (bif bif bif !hasSuf x.1 (vc77_24 s) then true else !ByteArray.toList (vc77_26 s x) == ByteArray.toList (vc77_21 s).1 then true else bif bif bif bif bif bif false then true else atoE (vc77_5 s x) then true else decide ((9 : Int) < (↑(ByteArray.size (trimP (vc77_5 s x) (ByteArray.mk (Array.mk [(45 : UInt8)])))) : Int)) then true else !ByteArray.toList (itoaS (atoN (vc77_5 s x))) == ByteArray.toList (vc77_5 s x) then true else atoE (vc77_7 s x) then true else decide ((9 : Int) < (↑(ByteArray.size (trimP (vc77_7 s x) (ByteArray.mk (Array.mk [(45 : UInt8)])))) : Int)) then true else !ByteArray.toList (itoaS (atoN (vc77_7 s x))) == ByteArray.toList (vc77_7 s x) then true else decide ((0 : Int) < (↑(List.length (List.drop (1 : Nat) (List.take (vc77_15 s x) (List.drop (1 : Nat) (List.take (List.length (vc77_1 s x)) (vc77_1 s x)))))) : Int)))
def vc77_33 (s : ByteArray) (x : ByteArray × Nat × Cab) := ((vc77_11 s x) ∧ List.length x.2.2.1 ≤ (1000000 : Nat) ∧ List.length x.2.2.2.1 ≤ (1000000 : Nat) ∧ (2 : Nat) ≤ (1000000 : Nat))
def vc77_34 (s : ByteArray) := (Option.getD (mpGet (Sch.int IntKind.i64) (2 : Int) formsL) (ByteArray.mk (Array.mk []), none))
def vc77_35 (s : ByteArray) (x : ByteArray × Nat × Cab) := (bif bif bif !hasSuf (vc77_18 s x) (vc77_24 s) then true else !ByteArray.toList (vc77_25 s x) == ByteArray.toList (vc77_20 s).1 then true else true then true else decide ((0 : Int) < (↑(vc77_14 s x) : Int)))
def vc77_36 (s : ByteArray) (x : ByteArray × Nat × Cab) := (bif bif bif !hasSuf (vc77_18 s x) (vc77_24 s) then true else !ByteArray.toList (vc77_25 s x) == ByteArray.toList (vc77_21 s).1 then true else true then true else decide ((0 : Int) < (↑(vc77_14 s x) : Int)))
def vc77_37 (s : ByteArray) (x : ByteArray × Nat × Cab) := (bif bif bif !hasSuf x.1 (vc77_24 s) then true else !ByteArray.toList (vc77_26 s x) == ByteArray.toList (vc77_20 s).1 then true else true then true else decide ((0 : Int) < (↑(vc77_15 s x) : Int)))
def vc77_38 (s : ByteArray) (x : ByteArray × Nat × Cab) := (bif bif bif !hasSuf x.1 (vc77_24 s) then true else !ByteArray.toList (vc77_26 s x) == ByteArray.toList (vc77_21 s).1 then true else true then true else decide ((0 : Int) < (↑(vc77_15 s x) : Int)))
def vc77_39 (s : ByteArray) (x : ByteArray × Nat × Cab) := (((0 : Int) ≤ (0 : Int) ∧ (0 : Int) < (↑(List.length (vc77_0 s x)) : Int)) ∧ (0 : Int) ≤ (0 : Int) ∧ (0 : Int) < (↑(List.length (vc77_0 s x)) : Int))
def vc77_40 (s : ByteArray) (x : ByteArray × Nat × Cab) := ((0 : Int) ≤ (1 : Int) ∧ (1 : Int) ≤ (↑(List.length (vc77_0 s x)) : Int) ∧ (↑(List.length (vc77_0 s x)) : Int) ≤ (↑(List.length (vc77_0 s x)) : Int))
def vc77_41 (s : ByteArray) (x : ByteArray × Nat × Cab) := (((0 : Int) ≤ (0 : Int) ∧ (0 : Int) < (↑(List.length (vc77_1 s x)) : Int)) ∧ (0 : Int) ≤ (0 : Int) ∧ (0 : Int) < (↑(List.length (vc77_1 s x)) : Int))
def vc77_42 (s : ByteArray) (x : ByteArray × Nat × Cab) := ((0 : Int) ≤ (1 : Int) ∧ (1 : Int) ≤ (↑(List.length (vc77_1 s x)) : Int) ∧ (↑(List.length (vc77_1 s x)) : Int) ≤ (↑(List.length (vc77_1 s x)) : Int))
def vc77_43 (s : ByteArray) (x : ByteArray × Nat × Cab) := (bif bif bif !hasSuf (vc77_18 s x) (vc77_24 s) then true else !ByteArray.toList (vc77_25 s x) == ByteArray.toList (vc77_34 s).1 then true else bif bif bif false then true else atoE (vc77_4 s x) then true else decide ((9 : Int) < (↑(ByteArray.size (trimP (vc77_4 s x) (ByteArray.mk (Array.mk [(45 : UInt8)])))) : Int)) then true else !ByteArray.toList (itoaS (atoN (vc77_4 s x))) == ByteArray.toList (vc77_4 s x) then true else decide ((0 : Int) < (↑(vc77_14 s x) : Int)))
def vc77_44 (s : ByteArray) (x : ByteArray × Nat × Cab) := (bif bif bif !hasSuf x.1 (vc77_24 s) then true else !ByteArray.toList (vc77_26 s x) == ByteArray.toList (vc77_34 s).1 then true else bif bif bif false then true else atoE (vc77_5 s x) then true else decide ((9 : Int) < (↑(ByteArray.size (trimP (vc77_5 s x) (ByteArray.mk (Array.mk [(45 : UInt8)])))) : Int)) then true else !ByteArray.toList (itoaS (atoN (vc77_5 s x))) == ByteArray.toList (vc77_5 s x) then true else decide ((0 : Int) < (↑(vc77_15 s x) : Int)))
def vc77_45 (s : ByteArray) (x : ByteArray × Nat × Cab) := (firstS [bif bif (↑x.2.1 : Int) + (1 : Int) == (0 : Int) then true else bif decide ((1 : Int) < (↑x.2.1 : Int) + (1 : Int)) then Int.tmod ((↑x.2.1 : Int) + (1 : Int)) (2 : Int) == (1 : Int) else false then (25 : Int) else (0 : Int), cabS (x.2.2.1 ++ [(atoN (vc77_4 s x), atoN (vc77_6 s x))], x.2.2.2.1, x.2.2.2.2.1, x.2.2.2.2.2)] != (0 : Int))
def vc77_46 (s : ByteArray) (x : ByteArray × Nat × Cab) := (firstS [bif bif (↑x.2.1 : Int) + (1 : Int) == (0 : Int) then true else bif decide ((1 : Int) < (↑x.2.1 : Int) + (1 : Int)) then Int.tmod ((↑x.2.1 : Int) + (1 : Int)) (2 : Int) == (1 : Int) else false then (25 : Int) else (0 : Int), cabS (x.2.2.1 ++ [(atoN (vc77_5 s x), atoN (vc77_7 s x))], x.2.2.2.1, x.2.2.2.2.1, x.2.2.2.2.2)] != (0 : Int))
def vc77_47 (s : ByteArray) (x : ByteArray × Nat × Cab) := (firstS [bif bif (↑x.2.1 : Int) + (1 : Int) == (0 : Int) then true else bif decide ((1 : Int) < (↑x.2.1 : Int) + (1 : Int)) then Int.tmod ((↑x.2.1 : Int) + (1 : Int)) (2 : Int) == (1 : Int) else false then (25 : Int) else (0 : Int), cabS (x.2.2.1 ++ [((0 : Int), atoN (vc77_4 s x))], x.2.2.2.1, x.2.2.2.2.1, x.2.2.2.2.2)] != (0 : Int))
def vc77_48 (s : ByteArray) (x : ByteArray × Nat × Cab) := (firstS [bif bif (↑x.2.1 : Int) + (1 : Int) == (0 : Int) then true else bif decide ((1 : Int) < (↑x.2.1 : Int) + (1 : Int)) then Int.tmod ((↑x.2.1 : Int) + (1 : Int)) (2 : Int) == (1 : Int) else false then (25 : Int) else (0 : Int), cabS (x.2.2.1 ++ [(atoN (vc77_4 s x), (0 : Int))], x.2.2.2.1, x.2.2.2.2.1, x.2.2.2.2.2)] != (0 : Int))
def vc77_49 (s : ByteArray) (x : ByteArray × Nat × Cab) := (firstS [bif bif (↑x.2.1 : Int) + (1 : Int) == (0 : Int) then true else bif decide ((1 : Int) < (↑x.2.1 : Int) + (1 : Int)) then Int.tmod ((↑x.2.1 : Int) + (1 : Int)) (2 : Int) == (1 : Int) else false then (25 : Int) else (0 : Int), cabS (x.2.2.1 ++ [((0 : Int), atoN (vc77_5 s x))], x.2.2.2.1, x.2.2.2.2.1, x.2.2.2.2.2)] != (0 : Int))
def vc77_50 (s : ByteArray) (x : ByteArray × Nat × Cab) := (firstS [bif bif (↑x.2.1 : Int) + (1 : Int) == (0 : Int) then true else bif decide ((1 : Int) < (↑x.2.1 : Int) + (1 : Int)) then Int.tmod ((↑x.2.1 : Int) + (1 : Int)) (2 : Int) == (1 : Int) else false then (25 : Int) else (0 : Int), cabS (x.2.2.1 ++ [(atoN (vc77_5 s x), (0 : Int))], x.2.2.2.1, x.2.2.2.2.1, x.2.2.2.2.2)] != (0 : Int))
def vc77_51 (s : ByteArray) (x : ByteArray × Nat × Cab) := (firstS [bif bif (↑x.2.1 : Int) + (1 : Int) == (0 : Int) then true else bif decide ((1 : Int) < (↑x.2.1 : Int) + (1 : Int)) then Int.tmod ((↑x.2.1 : Int) + (1 : Int)) (2 : Int) == (1 : Int) else false then (25 : Int) else (0 : Int), cabS (x.2.2.1, x.2.2.2.1 ++ [atoN (vc77_4 s x)], x.2.2.2.2.1, x.2.2.2.2.2)] != (0 : Int))
def vc77_52 (s : ByteArray) (x : ByteArray × Nat × Cab) := (firstS [bif bif (↑x.2.1 : Int) + (1 : Int) == (0 : Int) then true else bif decide ((1 : Int) < (↑x.2.1 : Int) + (1 : Int)) then Int.tmod ((↑x.2.1 : Int) + (1 : Int)) (2 : Int) == (1 : Int) else false then (25 : Int) else (0 : Int), cabS (x.2.2.1, x.2.2.2.1 ++ [atoN (vc77_5 s x)], x.2.2.2.2.1, x.2.2.2.2.2)] != (0 : Int))
def vc77_53 (s : ByteArray) (x : ByteArray × Nat × Cab) := ((↑(List.length (vc77_0 s x)) : Int) == (0 : Int))
def vc77_54 (s : ByteArray) (x : ByteArray × Nat × Cab) := ((↑(List.length (vc77_1 s x)) : Int) == (0 : Int))
def vc77_55 (s : ByteArray) (x : ByteArray × Nat × Cab) := (firstS [bif bif (↑x.2.1 : Int) + (1 : Int) == (0 : Int) then true else bif decide ((1 : Int) < (↑x.2.1 : Int) + (1 : Int)) then Int.tmod ((↑x.2.1 : Int) + (1 : Int)) (2 : Int) == (1 : Int) else false then (25 : Int) else (0 : Int), cabS (x.2.2.1, x.2.2.2.1, atoN (vc77_4 s x), atoN (vc77_6 s x))] != (0 : Int))
def vc77_56 (s : ByteArray) (x : ByteArray × Nat × Cab) := (firstS [bif bif (↑x.2.1 : Int) + (1 : Int) == (0 : Int) then true else bif decide ((1 : Int) < (↑x.2.1 : Int) + (1 : Int)) then Int.tmod ((↑x.2.1 : Int) + (1 : Int)) (2 : Int) == (1 : Int) else false then (25 : Int) else (0 : Int), cabS (x.2.2.1, x.2.2.2.1, atoN (vc77_5 s x), atoN (vc77_7 s x))] != (0 : Int))
def vc77_57 (s : ByteArray) (x : ByteArray × Nat × Cab) := (Int.toNat (indexF x.1 (10 : Int) + (1 : Int)))
def vc77_58 (s : ByteArray) (x : ByteArray × Nat × Cab) := (firstS [bif bif (↑x.2.1 : Int) + (1 : Int) == (0 : Int) then true else bif decide ((1 : Int) < (↑x.2.1 : Int) + (1 : Int)) then Int.tmod ((↑x.2.1 : Int) + (1 : Int)) (2 : Int) == (1 : Int) else false then (25 : Int) else (0 : Int), cabS (x.2.2.1, x.2.2.2.1, (0 : Int), atoN (vc77_4 s x))] != (0 : Int))
def vc77_59 (s : ByteArray) (x : ByteArray × Nat × Cab) := (firstS [bif bif (↑x.2.1 : Int) + (1 : Int) == (0 : Int) then true else bif decide ((1 : Int) < (↑x.2.1 : Int) + (1 : Int)) then Int.tmod ((↑x.2.1 : Int) + (1 : Int)) (2 : Int) == (1 : Int) else false then (25 : Int) else (0 : Int), cabS (x.2.2.1, x.2.2.2.1, atoN (vc77_4 s x), (0 : Int))] != (0 : Int))
def vc77_60 (s : ByteArray) (x : ByteArray × Nat × Cab) := (firstS [bif bif (↑x.2.1 : Int) + (1 : Int) == (0 : Int) then true else bif decide ((1 : Int) < (↑x.2.1 : Int) + (1 : Int)) then Int.tmod ((↑x.2.1 : Int) + (1 : Int)) (2 : Int) == (1 : Int) else false then (25 : Int) else (0 : Int), cabS (x.2.2.1, x.2.2.2.1, (0 : Int), atoN (vc77_5 s x))] != (0 : Int))
def vc77_61 (s : ByteArray) (x : ByteArray × Nat × Cab) := (firstS [bif bif (↑x.2.1 : Int) + (1 : Int) == (0 : Int) then true else bif decide ((1 : Int) < (↑x.2.1 : Int) + (1 : Int)) then Int.tmod ((↑x.2.1 : Int) + (1 : Int)) (2 : Int) == (1 : Int) else false then (25 : Int) else (0 : Int), cabS (x.2.2.1, x.2.2.2.1, atoN (vc77_5 s x), (0 : Int))] != (0 : Int))
def vc77_62 (s : ByteArray) (x : ByteArray × Nat × Cab) := (bif decide ((0 : Int) < (↑x.2.1 : Int)) then Int.tmod (↑x.2.1 : Int) (2 : Int) == (1 : Int) else false)
def vc77_63 (s : ByteArray) (x : ByteArray × Nat × Cab) := (firstS [bif bif (↑x.2.1 : Int) == (0 : Int) then true else bif decide ((1 : Int) < (↑x.2.1 : Int)) then Int.tmod (↑x.2.1 : Int) (2 : Int) == (1 : Int) else false then (25 : Int) else (0 : Int), cabS (x.2.2.1, x.2.2.2.1, x.2.2.2.2.1, x.2.2.2.2.2)] != (0 : Int))
def vc77_64 (s : ByteArray) (x : ByteArray × Nat × Cab) := ((0 : Int) ≤ (1 : Int) ∧ (1 : Int) ≤ (↑(List.length (vc77_3 s x)) : Int) ∧ (↑(List.length (vc77_3 s x)) : Int) ≤ (↑(List.length (vc77_3 s x)) : Int))
def vc77_65 (s : ByteArray) (x : ByteArray × Nat × Cab) := ((0 : Int) ≤ (1 : Int) ∧ (1 : Int) ≤ (↑(List.length (vc77_8 s x)) : Int) ∧ (↑(List.length (vc77_8 s x)) : Int) ≤ (↑(List.length (vc77_8 s x)) : Int))
def vc77_66 (s : ByteArray) (x : ByteArray × Nat × Cab) := ((true = false → ByteArray.size (vc77_4 s x) ≤ (1000000 : Nat)) ∧ (true = false → (1 : Nat) ≤ (1000000 : Nat)) ∧ (true = false → (-9223372036854775808 : Int) ≤ atoN (vc77_4 s x) ∧ atoN (vc77_4 s x) ≤ (9223372036854775807 : Int)))
def vc77_67 (s : ByteArray) (x : ByteArray × Nat × Cab) := ((true = false → ByteArray.size (vc77_5 s x) ≤ (1000000 : Nat)) ∧ (true = false → (1 : Nat) ≤ (1000000 : Nat)) ∧ (true = false → (-9223372036854775808 : Int) ≤ atoN (vc77_5 s x) ∧ atoN (vc77_5 s x) ≤ (9223372036854775807 : Int)))
def vc77_68 (s : ByteArray) (x : ByteArray × Nat × Cab) := (bif bif bif !hasSuf (vc77_18 s x) (vc77_24 s) then true else !ByteArray.toList (vc77_25 s x) == ByteArray.toList (vc77_20 s).1 then true else true then true else decide ((0 : Int) < (↑(List.length (vc77_0 s x)) : Int)))
def vc77_69 (s : ByteArray) (x : ByteArray × Nat × Cab) := (bif bif bif !hasSuf (vc77_18 s x) (vc77_24 s) then true else !ByteArray.toList (vc77_25 s x) == ByteArray.toList (vc77_34 s).1 then true else true then true else decide ((0 : Int) < (↑(List.length (vc77_0 s x)) : Int)))
def vc77_70 (s : ByteArray) (x : ByteArray × Nat × Cab) := (bif bif bif !hasSuf (vc77_18 s x) (vc77_24 s) then true else !ByteArray.toList (vc77_25 s x) == ByteArray.toList (vc77_21 s).1 then true else true then true else decide ((0 : Int) < (↑(List.length (vc77_0 s x)) : Int)))
def vc77_71 (s : ByteArray) (x : ByteArray × Nat × Cab) := (bif bif bif !hasSuf x.1 (vc77_24 s) then true else !ByteArray.toList (vc77_26 s x) == ByteArray.toList (vc77_20 s).1 then true else true then true else decide ((0 : Int) < (↑(List.length (vc77_1 s x)) : Int)))
def vc77_72 (s : ByteArray) (x : ByteArray × Nat × Cab) := (bif bif bif !hasSuf x.1 (vc77_24 s) then true else !ByteArray.toList (vc77_26 s x) == ByteArray.toList (vc77_34 s).1 then true else true then true else decide ((0 : Int) < (↑(List.length (vc77_1 s x)) : Int)))
def vc77_73 (s : ByteArray) (x : ByteArray × Nat × Cab) := (bif bif bif !hasSuf x.1 (vc77_24 s) then true else !ByteArray.toList (vc77_26 s x) == ByteArray.toList (vc77_21 s).1 then true else true then true else decide ((0 : Int) < (↑(List.length (vc77_1 s x)) : Int)))
theorem vc77 : ∀ (s : ByteArray), wpFG Tryz.prog G145 (na ()) (fun (f : FuncId) (id : Nat) => if f = (168 : FuncId) then some (annPa s) else none) (Sx.look [(136, Tryz.f136), (168, Tryz.f168), (164, Tryz.f164), (166, Tryz.f166), (167, Tryz.f167), (165, Tryz.f165), (135, Tryz.f135)]) Tryz.f77 cParseC (s, ()) = ((decide (4096 < (↑(ByteArray.size s) : Int)) = true → true = true ∧ ([], [], 0, 0) = (parseT s).1 ∧ 0 = (parseT s).2.1 ∧ 26 = (parseT s).2.2) ∧ (decide (4096 < (↑(ByteArray.size s) : Int)) = false → ((∀ (k k' : Int), some (k == k') = some (decide (k = k'))) ∧ ∀ (k : Int), true = true) ∧ ∃ (x : ByteArray × Nat × List (Int × Int) × List Int × Int × Int), (Value.slice none 0 0 = Value.slice none 0 0 ∧ Value.slice none 0 0 = Value.slice none 0 0 ∧ (0 : Int) = 0 ∧ (0 : Int) = 0 ∧ (0 : Int) = 0 ∧ (0 : Int) = 0 ∧ 0 = x.2.2.2.2.1 ∧ 0 = x.2.2.2.2.2 ∧ 0 = (↑x.2.1 : Int) ∧ [(0, ByteArray.mk (Array.mk [(99 : UInt8), (97 : UInt8), (98 : UInt8), (108 : UInt8), (101 : UInt8)]), some 164), (1, ByteArray.mk (Array.mk [(115 : UInt8), (101 : UInt8), (99 : UInt8), (116 : UInt8), (105 : UInt8), (111 : UInt8), (110 : UInt8)]), some 166), (2, ByteArray.mk (Array.mk [(106 : UInt8), (111 : UInt8), (105 : UInt8), (110 : UInt8), (116 : UInt8)]), some 167)] = formsL ∧ s = x.1 ∧ List.length x.2.2.1 = 0 ∧ List.length x.2.2.2.1 = 0) ∧ (ByteArray.size s ≤ 4096 ∧ ByteArray.size x.1 + x.2.1 ≤ ByteArray.size s ∧ List.length x.2.2.1 ≤ x.2.1 ∧ List.length x.2.2.2.1 ≤ x.2.1 ∧ parseT s = parseC readI (splB (10 : UInt8) x.1.data.toList) x.2.1 x.2.2) ∧ ∀ (x : ByteArray × Nat × Cab), ByteArray.size s ≤ 4096 ∧ ByteArray.size x.1 + x.2.1 ≤ ByteArray.size s ∧ List.length x.2.2.1 ≤ x.2.1 ∧ List.length x.2.2.2.1 ≤ x.2.1 ∧ parseT s = parseC readI (splB (10 : UInt8) x.1.data.toList) x.2.1 x.2.2 → (decide (0 < (↑(ByteArray.size x.1) : Int)) = true → (decide (0 ≤ indexF x.1 10) = true → ((I64 (indexF x.1 (10 : Int) + 1)) ∧ ((0 : Int) ≤ 0 ∧ 0 ≤ indexF x.1 (10 : Int) + 1 ∧ indexF x.1 (10 : Int) + 1 ≤ (↑(ByteArray.size x.1) : Int)) ∧ (I64 (indexF x.1 (10 : Int) + 1)) ∧ 0 ≤ indexF x.1 (10 : Int) + 1 ∧ indexF x.1 (10 : Int) + 1 ≤ (↑(ByteArray.size x.1) : Int) ∧ (↑(ByteArray.size x.1) : Int) ≤ (↑(ByteArray.size x.1) : Int)) ∧ (ByteArray.size (vc77_18 s x) ≤ 1000000 ∧ 1 ≤ 1000000) ∧ (ByteArray.size (cutSuf (vc77_18 s x) (vc77_24 s)) ≤ 1000000 ∧ 1 ≤ 1) ∧ (decide (0 < (↑x.2.1 : Int)) = true → (2 : Int) = 0 → False) ∧ ((vc77_62 s x) = true → (vc77_64 s x) ∧ ((vc77_53 s x) = true → ((vc77_53 s x) = true → (List.length x.2.2.1 + 1) * 16 ≤ 140737488355328 ∧ ((vc77_9 s x) ∧ (vc77_9 s x)) ∧ ((vc77_68 s x) = true → (vc77_10 s x) ∧ (true = false → ∃ (y : ByteArray × Nat × List (Int × Int) × List Int × Int × Int), False ∧ (vc77_2 s y) ∧ List.length y.1.data.toList < List.length x.1.data.toList)) ∧ ((vc77_68 s x) = false → (vc77_13 s x) ∧ (vc77_16 s x) ∧ (false = false → ∃ (y : ByteArray × Nat × List (Int × Int) × List Int × Int × Int), (Value.slice none 0 0 = Value.slice none 0 0 ∧ Value.slice none 0 0 = Value.slice none 0 0 ∧ (0 : Int) = 0 ∧ (0 : Int) = 0 ∧ (0 : Int) = 0 ∧ (0 : Int) = 0 ∧ x.2.2.2.2.1 = y.2.2.2.2.1 ∧ x.2.2.2.2.2 = y.2.2.2.2.2 ∧ (↑x.2.1 : Int) + 1 = (↑y.2.1 : Int) ∧ formsL = formsL ∧ ByteArray.extract x.1 (vc77_57 s x) (ByteArray.size x.1) = y.1 ∧ x.2.2.1 ++ [(0, 0)] = y.2.2.1 ∧ x.2.2.2.1 = y.2.2.2.1) ∧ (vc77_2 s y) ∧ List.length y.1.data.toList < List.length x.1.data.toList))) ∧ ((vc77_53 s x) = false → (vc77_39 s x) ∧ (vc77_40 s x) ∧ ByteArray.size (vc77_4 s x) ≤ 1000000 ∧ (vc77_66 s x) ∧ (List.length x.2.2.1 + 1) * 16 ≤ 140737488355328 ∧ ((vc77_9 s x) ∧ (vc77_9 s x)) ∧ ((vc77_35 s x) = true → (vc77_10 s x) ∧ (true = false → ∃ (y : ByteArray × Nat × List (Int × Int) × List Int × Int × Int), False ∧ (vc77_2 s y) ∧ List.length y.1.data.toList < List.length x.1.data.toList)) ∧ ((vc77_35 s x) = false → (vc77_13 s x) ∧ (false = true → ((vc77_11 s x) ∧ List.length (x.2.2.1 ++ [(0, atoN (vc77_4 s x))]) ≤ 1000000 ∧ List.length x.2.2.2.1 ≤ 1000000 ∧ 2 ≤ 1000000) ∧ ((vc77_47 s x) = true → true = true ∧ ([], [], 0, 0) = (parseT s).1 ∧ (↑x.2.1 : Int) + 1 = (parseT s).2.1 ∧ firstS [bif bif (↑x.2.1 : Int) + (1 : Int) == 0 then true else bif decide (1 < (↑x.2.1 : Int) + 1) then Int.tmod ((↑x.2.1 : Int) + 1) (2 : Int) == 1 else false then 25 else 0, cabS (x.2.2.1 ++ [(0, atoN (vc77_4 s x))], x.2.2.2.1, x.2.2.2.2.1, x.2.2.2.2.2)] = (parseT s).2.2) ∧ ((vc77_47 s x) = false → true = true ∧ (x.2.2.1 ++ [(0, atoN (vc77_4 s x))], x.2.2.2.1, x.2.2.2.2.1, x.2.2.2.2.2) = (parseT s).1 ∧ 0 = (parseT s).2.1 ∧ 0 = (parseT s).2.2)) ∧ (false = false → ∃ (y : ByteArray × Nat × List (Int × Int) × List Int × Int × Int), (Value.slice none 0 0 = Value.slice none 0 0 ∧ Value.slice none 0 0 = Value.slice none 0 0 ∧ (0 : Int) = 0 ∧ (0 : Int) = 0 ∧ (0 : Int) = 0 ∧ (0 : Int) = 0 ∧ x.2.2.2.2.1 = y.2.2.2.2.1 ∧ x.2.2.2.2.2 = y.2.2.2.2.2 ∧ (↑x.2.1 : Int) + 1 = (↑y.2.1 : Int) ∧ formsL = formsL ∧ ByteArray.extract x.1 (vc77_57 s x) (ByteArray.size x.1) = y.1 ∧ x.2.2.1 ++ [(0, atoN (vc77_4 s x))] = y.2.2.1 ∧ x.2.2.2.1 = y.2.2.2.1) ∧ (vc77_2 s y) ∧ List.length y.1.data.toList < List.length x.1.data.toList)))) ∧ ((vc77_53 s x) = false → (vc77_39 s x) ∧ (vc77_40 s x) ∧ ByteArray.size (vc77_4 s x) ≤ 1000000 ∧ (vc77_27 s x) ∧ (((↑(vc77_14 s x) : Int) == 0) = true → (List.length x.2.2.1 + 1) * 16 ≤ 140737488355328 ∧ ((vc77_9 s x) ∧ (vc77_9 s x)) ∧ ((vc77_35 s x) = true → (vc77_10 s x) ∧ (true = false → ∃ (y : ByteArray × Nat × List (Int × Int) × List Int × Int × Int), False ∧ (vc77_2 s y) ∧ List.length y.1.data.toList < List.length x.1.data.toList)) ∧ ((vc77_35 s x) = false → (vc77_13 s x) ∧ (false = true → ((vc77_11 s x) ∧ List.length (x.2.2.1 ++ [(atoN (vc77_4 s x), 0)]) ≤ 1000000 ∧ List.length x.2.2.2.1 ≤ 1000000 ∧ 2 ≤ 1000000) ∧ ((vc77_48 s x) = true → true = true ∧ ([], [], 0, 0) = (parseT s).1 ∧ (↑x.2.1 : Int) + 1 = (parseT s).2.1 ∧ firstS [bif bif (↑x.2.1 : Int) + (1 : Int) == 0 then true else bif decide (1 < (↑x.2.1 : Int) + 1) then Int.tmod ((↑x.2.1 : Int) + 1) (2 : Int) == 1 else false then 25 else 0, cabS (x.2.2.1 ++ [(atoN (vc77_4 s x), 0)], x.2.2.2.1, x.2.2.2.2.1, x.2.2.2.2.2)] = (parseT s).2.2) ∧ ((vc77_48 s x) = false → true = true ∧ (x.2.2.1 ++ [(atoN (vc77_4 s x), 0)], x.2.2.2.1, x.2.2.2.2.1, x.2.2.2.2.2) = (parseT s).1 ∧ 0 = (parseT s).2.1 ∧ 0 = (parseT s).2.2)) ∧ (false = false → ∃ (y : ByteArray × Nat × List (Int × Int) × List Int × Int × Int), (Value.slice none 0 0 = Value.slice none 0 0 ∧ Value.slice none 0 0 = Value.slice none 0 0 ∧ (0 : Int) = 0 ∧ (0 : Int) = 0 ∧ (0 : Int) = 0 ∧ (0 : Int) = 0 ∧ x.2.2.2.2.1 = y.2.2.2.2.1 ∧ x.2.2.2.2.2 = y.2.2.2.2.2 ∧ (↑x.2.1 : Int) + 1 = (↑y.2.1 : Int) ∧ formsL = formsL ∧ ByteArray.extract x.1 (vc77_57 s x) (ByteArray.size x.1) = y.1 ∧ x.2.2.1 ++ [(atoN (vc77_4 s x), 0)] = y.2.2.1 ∧ x.2.2.2.1 = y.2.2.2.1) ∧ (vc77_2 s y) ∧ List.length y.1.data.toList < List.length x.1.data.toList))) ∧ (((↑(vc77_14 s x) : Int) == 0) = false → (((0 : Int) ≤ 0 ∧ 0 < (↑(vc77_14 s x) : Int)) ∧ (0 : Int) ≤ 0 ∧ 0 < (↑(vc77_14 s x) : Int)) ∧ ((0 : Int) ≤ 1 ∧ 1 ≤ (↑(vc77_14 s x) : Int) ∧ (↑(vc77_14 s x) : Int) ≤ (↑(vc77_14 s x) : Int)) ∧ ByteArray.size (vc77_6 s x) ≤ 1000000 ∧ (vc77_22 s x) ∧ (List.length x.2.2.1 + 1) * 16 ≤ 140737488355328 ∧ ((vc77_9 s x) ∧ (vc77_9 s x)) ∧ ((vc77_29 s x) = true → (vc77_10 s x) ∧ (true = false → ∃ (y : ByteArray × Nat × List (Int × Int) × List Int × Int × Int), False ∧ (vc77_2 s y) ∧ List.length y.1.data.toList < List.length x.1.data.toList)) ∧ ((vc77_29 s x) = false → (vc77_13 s x) ∧ (false = true → ((vc77_11 s x) ∧ List.length (x.2.2.1 ++ [(atoN (vc77_4 s x), atoN (vc77_6 s x))]) ≤ 1000000 ∧ List.length x.2.2.2.1 ≤ 1000000 ∧ 2 ≤ 1000000) ∧ ((vc77_45 s x) = true → true = true ∧ ([], [], 0, 0) = (parseT s).1 ∧ (↑x.2.1 : Int) + 1 = (parseT s).2.1 ∧ firstS [bif bif (↑x.2.1 : Int) + (1 : Int) == 0 then true else bif decide (1 < (↑x.2.1 : Int) + 1) then Int.tmod ((↑x.2.1 : Int) + 1) (2 : Int) == 1 else false then 25 else 0, cabS (x.2.2.1 ++ [(atoN (vc77_4 s x), atoN (vc77_6 s x))], x.2.2.2.1, x.2.2.2.2.1, x.2.2.2.2.2)] = (parseT s).2.2) ∧ ((vc77_45 s x) = false → true = true ∧ (x.2.2.1 ++ [(atoN (vc77_4 s x), atoN (vc77_6 s x))], x.2.2.2.1, x.2.2.2.2.1, x.2.2.2.2.2) = (parseT s).1 ∧ 0 = (parseT s).2.1 ∧ 0 = (parseT s).2.2)) ∧ (false = false → ∃ (y : ByteArray × Nat × List (Int × Int) × List Int × Int × Int), (Value.slice none 0 0 = Value.slice none 0 0 ∧ Value.slice none 0 0 = Value.slice none 0 0 ∧ (0 : Int) = 0 ∧ (0 : Int) = 0 ∧ (0 : Int) = 0 ∧ (0 : Int) = 0 ∧ x.2.2.2.2.1 = y.2.2.2.2.1 ∧ x.2.2.2.2.2 = y.2.2.2.2.2 ∧ (↑x.2.1 : Int) + 1 = (↑y.2.1 : Int) ∧ formsL = formsL ∧ ByteArray.extract x.1 (vc77_57 s x) (ByteArray.size x.1) = y.1 ∧ x.2.2.1 ++ [(atoN (vc77_4 s x), atoN (vc77_6 s x))] = y.2.2.1 ∧ x.2.2.2.1 = y.2.2.2.1) ∧ (vc77_2 s y) ∧ List.length y.1.data.toList < List.length x.1.data.toList))))) ∧ ((vc77_62 s x) = false → (decide (0 < (↑x.2.1 : Int)) = true → (vc77_64 s x) ∧ ((vc77_53 s x) = true → (List.length x.2.2.2.1 + 1) * 8 ≤ 140737488355328 ∧ ((vc77_9 s x) ∧ (vc77_9 s x)) ∧ ((vc77_69 s x) = true → (vc77_10 s x) ∧ (true = false → ∃ (y : ByteArray × Nat × List (Int × Int) × List Int × Int × Int), False ∧ (vc77_2 s y) ∧ List.length y.1.data.toList < List.length x.1.data.toList)) ∧ ((vc77_69 s x) = false → (vc77_13 s x) ∧ (vc77_17 s x) ∧ (false = false → ∃ (y : ByteArray × Nat × List (Int × Int) × List Int × Int × Int), (Value.slice none 0 0 = Value.slice none 0 0 ∧ Value.slice none 0 0 = Value.slice none 0 0 ∧ (0 : Int) = 0 ∧ (0 : Int) = 0 ∧ (0 : Int) = 0 ∧ (0 : Int) = 0 ∧ x.2.2.2.2.1 = y.2.2.2.2.1 ∧ x.2.2.2.2.2 = y.2.2.2.2.2 ∧ (↑x.2.1 : Int) + 1 = (↑y.2.1 : Int) ∧ formsL = formsL ∧ ByteArray.extract x.1 (vc77_57 s x) (ByteArray.size x.1) = y.1 ∧ x.2.2.1 = y.2.2.1 ∧ x.2.2.2.1 ++ [0] = y.2.2.2.1) ∧ (vc77_2 s y) ∧ List.length y.1.data.toList < List.length x.1.data.toList))) ∧ ((vc77_53 s x) = false → (vc77_39 s x) ∧ (vc77_40 s x) ∧ ByteArray.size (vc77_4 s x) ≤ 1000000 ∧ (vc77_27 s x) ∧ (List.length x.2.2.2.1 + 1) * 8 ≤ 140737488355328 ∧ ((vc77_9 s x) ∧ (vc77_9 s x)) ∧ ((vc77_43 s x) = true → (vc77_10 s x) ∧ (true = false → ∃ (y : ByteArray × Nat × List (Int × Int) × List Int × Int × Int), False ∧ (vc77_2 s y) ∧ List.length y.1.data.toList < List.length x.1.data.toList)) ∧ ((vc77_43 s x) = false → (vc77_13 s x) ∧ (false = true → ((vc77_11 s x) ∧ List.length x.2.2.1 ≤ 1000000 ∧ List.length (x.2.2.2.1 ++ [atoN (vc77_4 s x)]) ≤ 1000000 ∧ 2 ≤ 1000000) ∧ ((vc77_51 s x) = true → true = true ∧ ([], [], 0, 0) = (parseT s).1 ∧ (↑x.2.1 : Int) + 1 = (parseT s).2.1 ∧ firstS [bif bif (↑x.2.1 : Int) + (1 : Int) == 0 then true else bif decide (1 < (↑x.2.1 : Int) + 1) then Int.tmod ((↑x.2.1 : Int) + 1) (2 : Int) == 1 else false then 25 else 0, cabS (x.2.2.1, x.2.2.2.1 ++ [atoN (vc77_4 s x)], x.2.2.2.2.1, x.2.2.2.2.2)] = (parseT s).2.2) ∧ ((vc77_51 s x) = false → true = true ∧ (x.2.2.1, x.2.2.2.1 ++ [atoN (vc77_4 s x)], x.2.2.2.2.1, x.2.2.2.2.2) = (parseT s).1 ∧ 0 = (parseT s).2.1 ∧ 0 = (parseT s).2.2)) ∧ (false = false → ∃ (y : ByteArray × Nat × List (Int × Int) × List Int × Int × Int), (Value.slice none 0 0 = Value.slice none 0 0 ∧ Value.slice none 0 0 = Value.slice none 0 0 ∧ (0 : Int) = 0 ∧ (0 : Int) = 0 ∧ (0 : Int) = 0 ∧ (0 : Int) = 0 ∧ x.2.2.2.2.1 = y.2.2.2.2.1 ∧ x.2.2.2.2.2 = y.2.2.2.2.2 ∧ (↑x.2.1 : Int) + 1 = (↑y.2.1 : Int) ∧ formsL = formsL ∧ ByteArray.extract x.1 (vc77_57 s x) (ByteArray.size x.1) = y.1 ∧ x.2.2.1 = y.2.2.1 ∧ x.2.2.2.1 ++ [atoN (vc77_4 s x)] = y.2.2.2.1) ∧ (vc77_2 s y) ∧ List.length y.1.data.toList < List.length x.1.data.toList)))) ∧ (decide (0 < (↑x.2.1 : Int)) = false → (vc77_64 s x) ∧ ((vc77_53 s x) = true → ((vc77_53 s x) = true → ((vc77_9 s x) ∧ (vc77_9 s x)) ∧ ((vc77_70 s x) = true → (vc77_10 s x) ∧ (true = false → ∃ (y : ByteArray × Nat × List (Int × Int) × List Int × Int × Int), False ∧ (vc77_2 s y) ∧ List.length y.1.data.toList < List.length x.1.data.toList)) ∧ ((vc77_70 s x) = false → (vc77_13 s x) ∧ (vc77_19 s x) ∧ (false = false → ∃ (y : ByteArray × Nat × List (Int × Int) × List Int × Int × Int), (Value.slice none 0 0 = Value.slice none 0 0 ∧ Value.slice none 0 0 = Value.slice none 0 0 ∧ (0 : Int) = 0 ∧ (0 : Int) = 0 ∧ (0 : Int) = 0 ∧ (0 : Int) = 0 ∧ 0 = y.2.2.2.2.1 ∧ 0 = y.2.2.2.2.2 ∧ (↑x.2.1 : Int) + 1 = (↑y.2.1 : Int) ∧ formsL = formsL ∧ ByteArray.extract x.1 (vc77_57 s x) (ByteArray.size x.1) = y.1 ∧ x.2.2.1 = y.2.2.1 ∧ x.2.2.2.1 = y.2.2.2.1) ∧ (vc77_2 s y) ∧ List.length y.1.data.toList < List.length x.1.data.toList))) ∧ ((vc77_53 s x) = false → (vc77_39 s x) ∧ (vc77_40 s x) ∧ ByteArray.size (vc77_4 s x) ≤ 1000000 ∧ (vc77_66 s x) ∧ ((vc77_9 s x) ∧ (vc77_9 s x)) ∧ ((vc77_36 s x) = true → (vc77_10 s x) ∧ (true = false → ∃ (y : ByteArray × Nat × List (Int × Int) × List Int × Int × Int), False ∧ (vc77_2 s y) ∧ List.length y.1.data.toList < List.length x.1.data.toList)) ∧ ((vc77_36 s x) = false → (vc77_13 s x) ∧ (false = true → (vc77_33 s x) ∧ ((vc77_58 s x) = true → true = true ∧ ([], [], 0, 0) = (parseT s).1 ∧ (↑x.2.1 : Int) + 1 = (parseT s).2.1 ∧ firstS [bif bif (↑x.2.1 : Int) + (1 : Int) == 0 then true else bif decide (1 < (↑x.2.1 : Int) + 1) then Int.tmod ((↑x.2.1 : Int) + 1) (2 : Int) == 1 else false then 25 else 0, cabS (x.2.2.1, x.2.2.2.1, 0, atoN (vc77_4 s x))] = (parseT s).2.2) ∧ ((vc77_58 s x) = false → true = true ∧ (x.2.2.1, x.2.2.2.1, 0, atoN (vc77_4 s x)) = (parseT s).1 ∧ 0 = (parseT s).2.1 ∧ 0 = (parseT s).2.2)) ∧ (false = false → ∃ (y : ByteArray × Nat × List (Int × Int) × List Int × Int × Int), (Value.slice none 0 0 = Value.slice none 0 0 ∧ Value.slice none 0 0 = Value.slice none 0 0 ∧ (0 : Int) = 0 ∧ (0 : Int) = 0 ∧ (0 : Int) = 0 ∧ (0 : Int) = 0 ∧ 0 = y.2.2.2.2.1 ∧ atoN (vc77_4 s x) = y.2.2.2.2.2 ∧ (↑x.2.1 : Int) + 1 = (↑y.2.1 : Int) ∧ formsL = formsL ∧ ByteArray.extract x.1 (vc77_57 s x) (ByteArray.size x.1) = y.1 ∧ x.2.2.1 = y.2.2.1 ∧ x.2.2.2.1 = y.2.2.2.1) ∧ (vc77_2 s y) ∧ List.length y.1.data.toList < List.length x.1.data.toList)))) ∧ ((vc77_53 s x) = false → (vc77_39 s x) ∧ (vc77_40 s x) ∧ ByteArray.size (vc77_4 s x) ≤ 1000000 ∧ (vc77_27 s x) ∧ (((↑(vc77_14 s x) : Int) == 0) = true → ((vc77_9 s x) ∧ (vc77_9 s x)) ∧ ((vc77_36 s x) = true → (vc77_10 s x) ∧ (true = false → ∃ (y : ByteArray × Nat × List (Int × Int) × List Int × Int × Int), False ∧ (vc77_2 s y) ∧ List.length y.1.data.toList < List.length x.1.data.toList)) ∧ ((vc77_36 s x) = false → (vc77_13 s x) ∧ (false = true → (vc77_33 s x) ∧ ((vc77_59 s x) = true → true = true ∧ ([], [], 0, 0) = (parseT s).1 ∧ (↑x.2.1 : Int) + 1 = (parseT s).2.1 ∧ firstS [bif bif (↑x.2.1 : Int) + (1 : Int) == 0 then true else bif decide (1 < (↑x.2.1 : Int) + 1) then Int.tmod ((↑x.2.1 : Int) + 1) (2 : Int) == 1 else false then 25 else 0, cabS (x.2.2.1, x.2.2.2.1, atoN (vc77_4 s x), 0)] = (parseT s).2.2) ∧ ((vc77_59 s x) = false → true = true ∧ (x.2.2.1, x.2.2.2.1, atoN (vc77_4 s x), 0) = (parseT s).1 ∧ 0 = (parseT s).2.1 ∧ 0 = (parseT s).2.2)) ∧ (false = false → ∃ (y : ByteArray × Nat × List (Int × Int) × List Int × Int × Int), (Value.slice none 0 0 = Value.slice none 0 0 ∧ Value.slice none 0 0 = Value.slice none 0 0 ∧ (0 : Int) = 0 ∧ (0 : Int) = 0 ∧ (0 : Int) = 0 ∧ (0 : Int) = 0 ∧ atoN (vc77_4 s x) = y.2.2.2.2.1 ∧ 0 = y.2.2.2.2.2 ∧ (↑x.2.1 : Int) + 1 = (↑y.2.1 : Int) ∧ formsL = formsL ∧ ByteArray.extract x.1 (vc77_57 s x) (ByteArray.size x.1) = y.1 ∧ x.2.2.1 = y.2.2.1 ∧ x.2.2.2.1 = y.2.2.2.1) ∧ (vc77_2 s y) ∧ List.length y.1.data.toList < List.length x.1.data.toList))) ∧ (((↑(vc77_14 s x) : Int) == 0) = false → (((0 : Int) ≤ 0 ∧ 0 < (↑(vc77_14 s x) : Int)) ∧ (0 : Int) ≤ 0 ∧ 0 < (↑(vc77_14 s x) : Int)) ∧ ((0 : Int) ≤ 1 ∧ 1 ≤ (↑(vc77_14 s x) : Int) ∧ (↑(vc77_14 s x) : Int) ≤ (↑(vc77_14 s x) : Int)) ∧ ByteArray.size (vc77_6 s x) ≤ 1000000 ∧ (vc77_22 s x) ∧ ((vc77_9 s x) ∧ (vc77_9 s x)) ∧ ((vc77_30 s x) = true → (vc77_10 s x) ∧ (true = false → ∃ (y : ByteArray × Nat × List (Int × Int) × List Int × Int × Int), False ∧ (vc77_2 s y) ∧ List.length y.1.data.toList < List.length x.1.data.toList)) ∧ ((vc77_30 s x) = false → (vc77_13 s x) ∧ (false = true → (vc77_33 s x) ∧ ((vc77_55 s x) = true → true = true ∧ ([], [], 0, 0) = (parseT s).1 ∧ (↑x.2.1 : Int) + 1 = (parseT s).2.1 ∧ firstS [bif bif (↑x.2.1 : Int) + (1 : Int) == 0 then true else bif decide (1 < (↑x.2.1 : Int) + 1) then Int.tmod ((↑x.2.1 : Int) + 1) (2 : Int) == 1 else false then 25 else 0, cabS (x.2.2.1, x.2.2.2.1, atoN (vc77_4 s x), atoN (vc77_6 s x))] = (parseT s).2.2) ∧ ((vc77_55 s x) = false → true = true ∧ (x.2.2.1, x.2.2.2.1, atoN (vc77_4 s x), atoN (vc77_6 s x)) = (parseT s).1 ∧ 0 = (parseT s).2.1 ∧ 0 = (parseT s).2.2)) ∧ (false = false → ∃ (y : ByteArray × Nat × List (Int × Int) × List Int × Int × Int), (Value.slice none 0 0 = Value.slice none 0 0 ∧ Value.slice none 0 0 = Value.slice none 0 0 ∧ (0 : Int) = 0 ∧ (0 : Int) = 0 ∧ (0 : Int) = 0 ∧ (0 : Int) = 0 ∧ atoN (vc77_4 s x) = y.2.2.2.2.1 ∧ atoN (vc77_6 s x) = y.2.2.2.2.2 ∧ (↑x.2.1 : Int) + 1 = (↑y.2.1 : Int) ∧ formsL = formsL ∧ ByteArray.extract x.1 (vc77_57 s x) (ByteArray.size x.1) = y.1 ∧ x.2.2.1 = y.2.2.1 ∧ x.2.2.2.1 = y.2.2.2.1) ∧ (vc77_2 s y) ∧ List.length y.1.data.toList < List.length x.1.data.toList))))))) ∧ (decide (0 ≤ indexF x.1 10) = false → (ByteArray.size x.1 ≤ 1000000 ∧ 1 ≤ 1000000) ∧ (ByteArray.size (cutSuf x.1 (vc77_24 s)) ≤ 1000000 ∧ 1 ≤ 1) ∧ (decide (0 < (↑x.2.1 : Int)) = true → (2 : Int) = 0 → False) ∧ ((vc77_62 s x) = true → (vc77_65 s x) ∧ ((vc77_54 s x) = true → ((vc77_54 s x) = true → (List.length x.2.2.1 + 1) * 16 ≤ 140737488355328 ∧ (vc77_12 s x) ∧ ((vc77_71 s x) = true → (vc77_10 s x) ∧ (true = false → ∃ (y : ByteArray × Nat × List (Int × Int) × List Int × Int × Int), False ∧ (vc77_2 s y) ∧ List.length y.1.data.toList < List.length x.1.data.toList)) ∧ ((vc77_71 s x) = false → (vc77_13 s x) ∧ (vc77_16 s x) ∧ (false = false → ∃ (y : ByteArray × Nat × List (Int × Int) × List Int × Int × Int), (Value.slice none 0 0 = Value.slice none 0 0 ∧ Value.slice none 0 0 = Value.slice none 0 0 ∧ (0 : Int) = 0 ∧ (0 : Int) = 0 ∧ (0 : Int) = 0 ∧ (0 : Int) = 0 ∧ x.2.2.2.2.1 = y.2.2.2.2.1 ∧ x.2.2.2.2.2 = y.2.2.2.2.2 ∧ (↑x.2.1 : Int) + 1 = (↑y.2.1 : Int) ∧ formsL = formsL ∧ ByteArray.mk (Array.mk []) = y.1 ∧ x.2.2.1 ++ [(0, 0)] = y.2.2.1 ∧ x.2.2.2.1 = y.2.2.2.1) ∧ (vc77_2 s y) ∧ List.length y.1.data.toList < List.length x.1.data.toList))) ∧ ((vc77_54 s x) = false → (vc77_41 s x) ∧ (vc77_42 s x) ∧ ByteArray.size (vc77_5 s x) ≤ 1000000 ∧ (vc77_67 s x) ∧ (List.length x.2.2.1 + 1) * 16 ≤ 140737488355328 ∧ (vc77_12 s x) ∧ ((vc77_37 s x) = true → (vc77_10 s x) ∧ (true = false → ∃ (y : ByteArray × Nat × List (Int × Int) × List Int × Int × Int), False ∧ (vc77_2 s y) ∧ List.length y.1.data.toList < List.length x.1.data.toList)) ∧ ((vc77_37 s x) = false → (vc77_13 s x) ∧ (false = true → ((vc77_11 s x) ∧ List.length (x.2.2.1 ++ [(0, atoN (vc77_5 s x))]) ≤ 1000000 ∧ List.length x.2.2.2.1 ≤ 1000000 ∧ 2 ≤ 1000000) ∧ ((vc77_49 s x) = true → true = true ∧ ([], [], 0, 0) = (parseT s).1 ∧ (↑x.2.1 : Int) + 1 = (parseT s).2.1 ∧ firstS [bif bif (↑x.2.1 : Int) + (1 : Int) == 0 then true else bif decide (1 < (↑x.2.1 : Int) + 1) then Int.tmod ((↑x.2.1 : Int) + 1) (2 : Int) == 1 else false then 25 else 0, cabS (x.2.2.1 ++ [(0, atoN (vc77_5 s x))], x.2.2.2.1, x.2.2.2.2.1, x.2.2.2.2.2)] = (parseT s).2.2) ∧ ((vc77_49 s x) = false → true = true ∧ (x.2.2.1 ++ [(0, atoN (vc77_5 s x))], x.2.2.2.1, x.2.2.2.2.1, x.2.2.2.2.2) = (parseT s).1 ∧ 0 = (parseT s).2.1 ∧ 0 = (parseT s).2.2)) ∧ (false = false → ∃ (y : ByteArray × Nat × List (Int × Int) × List Int × Int × Int), (Value.slice none 0 0 = Value.slice none 0 0 ∧ Value.slice none 0 0 = Value.slice none 0 0 ∧ (0 : Int) = 0 ∧ (0 : Int) = 0 ∧ (0 : Int) = 0 ∧ (0 : Int) = 0 ∧ x.2.2.2.2.1 = y.2.2.2.2.1 ∧ x.2.2.2.2.2 = y.2.2.2.2.2 ∧ (↑x.2.1 : Int) + 1 = (↑y.2.1 : Int) ∧ formsL = formsL ∧ ByteArray.mk (Array.mk []) = y.1 ∧ x.2.2.1 ++ [(0, atoN (vc77_5 s x))] = y.2.2.1 ∧ x.2.2.2.1 = y.2.2.2.1) ∧ (vc77_2 s y) ∧ List.length y.1.data.toList < List.length x.1.data.toList)))) ∧ ((vc77_54 s x) = false → (vc77_41 s x) ∧ (vc77_42 s x) ∧ ByteArray.size (vc77_5 s x) ≤ 1000000 ∧ (vc77_28 s x) ∧ (((↑(vc77_15 s x) : Int) == 0) = true → (List.length x.2.2.1 + 1) * 16 ≤ 140737488355328 ∧ (vc77_12 s x) ∧ ((vc77_37 s x) = true → (vc77_10 s x) ∧ (true = false → ∃ (y : ByteArray × Nat × List (Int × Int) × List Int × Int × Int), False ∧ (vc77_2 s y) ∧ List.length y.1.data.toList < List.length x.1.data.toList)) ∧ ((vc77_37 s x) = false → (vc77_13 s x) ∧ (false = true → ((vc77_11 s x) ∧ List.length (x.2.2.1 ++ [(atoN (vc77_5 s x), 0)]) ≤ 1000000 ∧ List.length x.2.2.2.1 ≤ 1000000 ∧ 2 ≤ 1000000) ∧ ((vc77_50 s x) = true → true = true ∧ ([], [], 0, 0) = (parseT s).1 ∧ (↑x.2.1 : Int) + 1 = (parseT s).2.1 ∧ firstS [bif bif (↑x.2.1 : Int) + (1 : Int) == 0 then true else bif decide (1 < (↑x.2.1 : Int) + 1) then Int.tmod ((↑x.2.1 : Int) + 1) (2 : Int) == 1 else false then 25 else 0, cabS (x.2.2.1 ++ [(atoN (vc77_5 s x), 0)], x.2.2.2.1, x.2.2.2.2.1, x.2.2.2.2.2)] = (parseT s).2.2) ∧ ((vc77_50 s x) = false → true = true ∧ (x.2.2.1 ++ [(atoN (vc77_5 s x), 0)], x.2.2.2.1, x.2.2.2.2.1, x.2.2.2.2.2) = (parseT s).1 ∧ 0 = (parseT s).2.1 ∧ 0 = (parseT s).2.2)) ∧ (false = false → ∃ (y : ByteArray × Nat × List (Int × Int) × List Int × Int × Int), (Value.slice none 0 0 = Value.slice none 0 0 ∧ Value.slice none 0 0 = Value.slice none 0 0 ∧ (0 : Int) = 0 ∧ (0 : Int) = 0 ∧ (0 : Int) = 0 ∧ (0 : Int) = 0 ∧ x.2.2.2.2.1 = y.2.2.2.2.1 ∧ x.2.2.2.2.2 = y.2.2.2.2.2 ∧ (↑x.2.1 : Int) + 1 = (↑y.2.1 : Int) ∧ formsL = formsL ∧ ByteArray.mk (Array.mk []) = y.1 ∧ x.2.2.1 ++ [(atoN (vc77_5 s x), 0)] = y.2.2.1 ∧ x.2.2.2.1 = y.2.2.2.1) ∧ (vc77_2 s y) ∧ List.length y.1.data.toList < List.length x.1.data.toList))) ∧ (((↑(vc77_15 s x) : Int) == 0) = false → (((0 : Int) ≤ 0 ∧ 0 < (↑(vc77_15 s x) : Int)) ∧ (0 : Int) ≤ 0 ∧ 0 < (↑(vc77_15 s x) : Int)) ∧ ((0 : Int) ≤ 1 ∧ 1 ≤ (↑(vc77_15 s x) : Int) ∧ (↑(vc77_15 s x) : Int) ≤ (↑(vc77_15 s x) : Int)) ∧ ByteArray.size (vc77_7 s x) ≤ 1000000 ∧ (vc77_23 s x) ∧ (List.length x.2.2.1 + 1) * 16 ≤ 140737488355328 ∧ (vc77_12 s x) ∧ ((vc77_31 s x) = true → (vc77_10 s x) ∧ (true = false → ∃ (y : ByteArray × Nat × List (Int × Int) × List Int × Int × Int), False ∧ (vc77_2 s y) ∧ List.length y.1.data.toList < List.length x.1.data.toList)) ∧ ((vc77_31 s x) = false → (vc77_13 s x) ∧ (false = true → ((vc77_11 s x) ∧ List.length (x.2.2.1 ++ [(atoN (vc77_5 s x), atoN (vc77_7 s x))]) ≤ 1000000 ∧ List.length x.2.2.2.1 ≤ 1000000 ∧ 2 ≤ 1000000) ∧ ((vc77_46 s x) = true → true = true ∧ ([], [], 0, 0) = (parseT s).1 ∧ (↑x.2.1 : Int) + 1 = (parseT s).2.1 ∧ firstS [bif bif (↑x.2.1 : Int) + (1 : Int) == 0 then true else bif decide (1 < (↑x.2.1 : Int) + 1) then Int.tmod ((↑x.2.1 : Int) + 1) (2 : Int) == 1 else false then 25 else 0, cabS (x.2.2.1 ++ [(atoN (vc77_5 s x), atoN (vc77_7 s x))], x.2.2.2.1, x.2.2.2.2.1, x.2.2.2.2.2)] = (parseT s).2.2) ∧ ((vc77_46 s x) = false → true = true ∧ (x.2.2.1 ++ [(atoN (vc77_5 s x), atoN (vc77_7 s x))], x.2.2.2.1, x.2.2.2.2.1, x.2.2.2.2.2) = (parseT s).1 ∧ 0 = (parseT s).2.1 ∧ 0 = (parseT s).2.2)) ∧ (false = false → ∃ (y : ByteArray × Nat × List (Int × Int) × List Int × Int × Int), (Value.slice none 0 0 = Value.slice none 0 0 ∧ Value.slice none 0 0 = Value.slice none 0 0 ∧ (0 : Int) = 0 ∧ (0 : Int) = 0 ∧ (0 : Int) = 0 ∧ (0 : Int) = 0 ∧ x.2.2.2.2.1 = y.2.2.2.2.1 ∧ x.2.2.2.2.2 = y.2.2.2.2.2 ∧ (↑x.2.1 : Int) + 1 = (↑y.2.1 : Int) ∧ formsL = formsL ∧ ByteArray.mk (Array.mk []) = y.1 ∧ x.2.2.1 ++ [(atoN (vc77_5 s x), atoN (vc77_7 s x))] = y.2.2.1 ∧ x.2.2.2.1 = y.2.2.2.1) ∧ (vc77_2 s y) ∧ List.length y.1.data.toList < List.length x.1.data.toList))))) ∧ ((vc77_62 s x) = false → (decide (0 < (↑x.2.1 : Int)) = true → (vc77_65 s x) ∧ ((vc77_54 s x) = true → (List.length x.2.2.2.1 + 1) * 8 ≤ 140737488355328 ∧ (vc77_12 s x) ∧ ((vc77_72 s x) = true → (vc77_10 s x) ∧ (true = false → ∃ (y : ByteArray × Nat × List (Int × Int) × List Int × Int × Int), False ∧ (vc77_2 s y) ∧ List.length y.1.data.toList < List.length x.1.data.toList)) ∧ ((vc77_72 s x) = false → (vc77_13 s x) ∧ (vc77_17 s x) ∧ (false = false → ∃ (y : ByteArray × Nat × List (Int × Int) × List Int × Int × Int), (Value.slice none 0 0 = Value.slice none 0 0 ∧ Value.slice none 0 0 = Value.slice none 0 0 ∧ (0 : Int) = 0 ∧ (0 : Int) = 0 ∧ (0 : Int) = 0 ∧ (0 : Int) = 0 ∧ x.2.2.2.2.1 = y.2.2.2.2.1 ∧ x.2.2.2.2.2 = y.2.2.2.2.2 ∧ (↑x.2.1 : Int) + 1 = (↑y.2.1 : Int) ∧ formsL = formsL ∧ ByteArray.mk (Array.mk []) = y.1 ∧ x.2.2.1 = y.2.2.1 ∧ x.2.2.2.1 ++ [0] = y.2.2.2.1) ∧ (vc77_2 s y) ∧ List.length y.1.data.toList < List.length x.1.data.toList))) ∧ ((vc77_54 s x) = false → (vc77_41 s x) ∧ (vc77_42 s x) ∧ ByteArray.size (vc77_5 s x) ≤ 1000000 ∧ (vc77_28 s x) ∧ (List.length x.2.2.2.1 + 1) * 8 ≤ 140737488355328 ∧ (vc77_12 s x) ∧ ((vc77_44 s x) = true → (vc77_10 s x) ∧ (true = false → ∃ (y : ByteArray × Nat × List (Int × Int) × List Int × Int × Int), False ∧ (vc77_2 s y) ∧ List.length y.1.data.toList < List.length x.1.data.toList)) ∧ ((vc77_44 s x) = false → (vc77_13 s x) ∧ (false = true → ((vc77_11 s x) ∧ List.length x.2.2.1 ≤ 1000000 ∧ List.length (x.2.2.2.1 ++ [atoN (vc77_5 s x)]) ≤ 1000000 ∧ 2 ≤ 1000000) ∧ ((vc77_52 s x) = true → true = true ∧ ([], [], 0, 0) = (parseT s).1 ∧ (↑x.2.1 : Int) + 1 = (parseT s).2.1 ∧ firstS [bif bif (↑x.2.1 : Int) + (1 : Int) == 0 then true else bif decide (1 < (↑x.2.1 : Int) + 1) then Int.tmod ((↑x.2.1 : Int) + 1) (2 : Int) == 1 else false then 25 else 0, cabS (x.2.2.1, x.2.2.2.1 ++ [atoN (vc77_5 s x)], x.2.2.2.2.1, x.2.2.2.2.2)] = (parseT s).2.2) ∧ ((vc77_52 s x) = false → true = true ∧ (x.2.2.1, x.2.2.2.1 ++ [atoN (vc77_5 s x)], x.2.2.2.2.1, x.2.2.2.2.2) = (parseT s).1 ∧ 0 = (parseT s).2.1 ∧ 0 = (parseT s).2.2)) ∧ (false = false → ∃ (y : ByteArray × Nat × List (Int × Int) × List Int × Int × Int), (Value.slice none 0 0 = Value.slice none 0 0 ∧ Value.slice none 0 0 = Value.slice none 0 0 ∧ (0 : Int) = 0 ∧ (0 : Int) = 0 ∧ (0 : Int) = 0 ∧ (0 : Int) = 0 ∧ x.2.2.2.2.1 = y.2.2.2.2.1 ∧ x.2.2.2.2.2 = y.2.2.2.2.2 ∧ (↑x.2.1 : Int) + 1 = (↑y.2.1 : Int) ∧ formsL = formsL ∧ ByteArray.mk (Array.mk []) = y.1 ∧ x.2.2.1 = y.2.2.1 ∧ x.2.2.2.1 ++ [atoN (vc77_5 s x)] = y.2.2.2.1) ∧ (vc77_2 s y) ∧ List.length y.1.data.toList < List.length x.1.data.toList)))) ∧ (decide (0 < (↑x.2.1 : Int)) = false → (vc77_65 s x) ∧ ((vc77_54 s x) = true → ((vc77_54 s x) = true → (vc77_12 s x) ∧ ((vc77_73 s x) = true → (vc77_10 s x) ∧ (true = false → ∃ (y : ByteArray × Nat × List (Int × Int) × List Int × Int × Int), False ∧ (vc77_2 s y) ∧ List.length y.1.data.toList < List.length x.1.data.toList)) ∧ ((vc77_73 s x) = false → (vc77_13 s x) ∧ (vc77_19 s x) ∧ (false = false → ∃ (y : ByteArray × Nat × List (Int × Int) × List Int × Int × Int), (Value.slice none 0 0 = Value.slice none 0 0 ∧ Value.slice none 0 0 = Value.slice none 0 0 ∧ (0 : Int) = 0 ∧ (0 : Int) = 0 ∧ (0 : Int) = 0 ∧ (0 : Int) = 0 ∧ 0 = y.2.2.2.2.1 ∧ 0 = y.2.2.2.2.2 ∧ (↑x.2.1 : Int) + 1 = (↑y.2.1 : Int) ∧ formsL = formsL ∧ ByteArray.mk (Array.mk []) = y.1 ∧ x.2.2.1 = y.2.2.1 ∧ x.2.2.2.1 = y.2.2.2.1) ∧ (vc77_2 s y) ∧ List.length y.1.data.toList < List.length x.1.data.toList))) ∧ ((vc77_54 s x) = false → (vc77_41 s x) ∧ (vc77_42 s x) ∧ ByteArray.size (vc77_5 s x) ≤ 1000000 ∧ (vc77_67 s x) ∧ (vc77_12 s x) ∧ ((vc77_38 s x) = true → (vc77_10 s x) ∧ (true = false → ∃ (y : ByteArray × Nat × List (Int × Int) × List Int × Int × Int), False ∧ (vc77_2 s y) ∧ List.length y.1.data.toList < List.length x.1.data.toList)) ∧ ((vc77_38 s x) = false → (vc77_13 s x) ∧ (false = true → (vc77_33 s x) ∧ ((vc77_60 s x) = true → true = true ∧ ([], [], 0, 0) = (parseT s).1 ∧ (↑x.2.1 : Int) + 1 = (parseT s).2.1 ∧ firstS [bif bif (↑x.2.1 : Int) + (1 : Int) == 0 then true else bif decide (1 < (↑x.2.1 : Int) + 1) then Int.tmod ((↑x.2.1 : Int) + 1) (2 : Int) == 1 else false then 25 else 0, cabS (x.2.2.1, x.2.2.2.1, 0, atoN (vc77_5 s x))] = (parseT s).2.2) ∧ ((vc77_60 s x) = false → true = true ∧ (x.2.2.1, x.2.2.2.1, 0, atoN (vc77_5 s x)) = (parseT s).1 ∧ 0 = (parseT s).2.1 ∧ 0 = (parseT s).2.2)) ∧ (false = false → ∃ (y : ByteArray × Nat × List (Int × Int) × List Int × Int × Int), (Value.slice none 0 0 = Value.slice none 0 0 ∧ Value.slice none 0 0 = Value.slice none 0 0 ∧ (0 : Int) = 0 ∧ (0 : Int) = 0 ∧ (0 : Int) = 0 ∧ (0 : Int) = 0 ∧ 0 = y.2.2.2.2.1 ∧ atoN (vc77_5 s x) = y.2.2.2.2.2 ∧ (↑x.2.1 : Int) + 1 = (↑y.2.1 : Int) ∧ formsL = formsL ∧ ByteArray.mk (Array.mk []) = y.1 ∧ x.2.2.1 = y.2.2.1 ∧ x.2.2.2.1 = y.2.2.2.1) ∧ (vc77_2 s y) ∧ List.length y.1.data.toList < List.length x.1.data.toList)))) ∧ ((vc77_54 s x) = false → (vc77_41 s x) ∧ (vc77_42 s x) ∧ ByteArray.size (vc77_5 s x) ≤ 1000000 ∧ (vc77_28 s x) ∧ (((↑(vc77_15 s x) : Int) == 0) = true → (vc77_12 s x) ∧ ((vc77_38 s x) = true → (vc77_10 s x) ∧ (true = false → ∃ (y : ByteArray × Nat × List (Int × Int) × List Int × Int × Int), False ∧ (vc77_2 s y) ∧ List.length y.1.data.toList < List.length x.1.data.toList)) ∧ ((vc77_38 s x) = false → (vc77_13 s x) ∧ (false = true → (vc77_33 s x) ∧ ((vc77_61 s x) = true → true = true ∧ ([], [], 0, 0) = (parseT s).1 ∧ (↑x.2.1 : Int) + 1 = (parseT s).2.1 ∧ firstS [bif bif (↑x.2.1 : Int) + (1 : Int) == 0 then true else bif decide (1 < (↑x.2.1 : Int) + 1) then Int.tmod ((↑x.2.1 : Int) + 1) (2 : Int) == 1 else false then 25 else 0, cabS (x.2.2.1, x.2.2.2.1, atoN (vc77_5 s x), 0)] = (parseT s).2.2) ∧ ((vc77_61 s x) = false → true = true ∧ (x.2.2.1, x.2.2.2.1, atoN (vc77_5 s x), 0) = (parseT s).1 ∧ 0 = (parseT s).2.1 ∧ 0 = (parseT s).2.2)) ∧ (false = false → ∃ (y : ByteArray × Nat × List (Int × Int) × List Int × Int × Int), (Value.slice none 0 0 = Value.slice none 0 0 ∧ Value.slice none 0 0 = Value.slice none 0 0 ∧ (0 : Int) = 0 ∧ (0 : Int) = 0 ∧ (0 : Int) = 0 ∧ (0 : Int) = 0 ∧ atoN (vc77_5 s x) = y.2.2.2.2.1 ∧ 0 = y.2.2.2.2.2 ∧ (↑x.2.1 : Int) + 1 = (↑y.2.1 : Int) ∧ formsL = formsL ∧ ByteArray.mk (Array.mk []) = y.1 ∧ x.2.2.1 = y.2.2.1 ∧ x.2.2.2.1 = y.2.2.2.1) ∧ (vc77_2 s y) ∧ List.length y.1.data.toList < List.length x.1.data.toList))) ∧ (((↑(vc77_15 s x) : Int) == 0) = false → (((0 : Int) ≤ 0 ∧ 0 < (↑(vc77_15 s x) : Int)) ∧ (0 : Int) ≤ 0 ∧ 0 < (↑(vc77_15 s x) : Int)) ∧ ((0 : Int) ≤ 1 ∧ 1 ≤ (↑(vc77_15 s x) : Int) ∧ (↑(vc77_15 s x) : Int) ≤ (↑(vc77_15 s x) : Int)) ∧ ByteArray.size (vc77_7 s x) ≤ 1000000 ∧ (vc77_23 s x) ∧ (vc77_12 s x) ∧ ((vc77_32 s x) = true → (vc77_10 s x) ∧ (true = false → ∃ (y : ByteArray × Nat × List (Int × Int) × List Int × Int × Int), False ∧ (vc77_2 s y) ∧ List.length y.1.data.toList < List.length x.1.data.toList)) ∧ ((vc77_32 s x) = false → (vc77_13 s x) ∧ (false = true → (vc77_33 s x) ∧ ((vc77_56 s x) = true → true = true ∧ ([], [], 0, 0) = (parseT s).1 ∧ (↑x.2.1 : Int) + 1 = (parseT s).2.1 ∧ firstS [bif bif (↑x.2.1 : Int) + (1 : Int) == 0 then true else bif decide (1 < (↑x.2.1 : Int) + 1) then Int.tmod ((↑x.2.1 : Int) + 1) (2 : Int) == 1 else false then 25 else 0, cabS (x.2.2.1, x.2.2.2.1, atoN (vc77_5 s x), atoN (vc77_7 s x))] = (parseT s).2.2) ∧ ((vc77_56 s x) = false → true = true ∧ (x.2.2.1, x.2.2.2.1, atoN (vc77_5 s x), atoN (vc77_7 s x)) = (parseT s).1 ∧ 0 = (parseT s).2.1 ∧ 0 = (parseT s).2.2)) ∧ (false = false → ∃ (y : ByteArray × Nat × List (Int × Int) × List Int × Int × Int), (Value.slice none 0 0 = Value.slice none 0 0 ∧ Value.slice none 0 0 = Value.slice none 0 0 ∧ (0 : Int) = 0 ∧ (0 : Int) = 0 ∧ (0 : Int) = 0 ∧ (0 : Int) = 0 ∧ atoN (vc77_5 s x) = y.2.2.2.2.1 ∧ atoN (vc77_7 s x) = y.2.2.2.2.2 ∧ (↑x.2.1 : Int) + 1 = (↑y.2.1 : Int) ∧ formsL = formsL ∧ ByteArray.mk (Array.mk []) = y.1 ∧ x.2.2.1 = y.2.2.1 ∧ x.2.2.2.1 = y.2.2.2.1) ∧ (vc77_2 s y) ∧ List.length y.1.data.toList < List.length x.1.data.toList)))))))) ∧ (decide (0 < (↑(ByteArray.size x.1) : Int)) = false → ((((↑x.2.1 : Int) == 0) = false ∧ decide (1 < (↑x.2.1 : Int)) = true → (2 : Int) = 0 → False) ∧ List.length x.2.2.1 ≤ 1000000 ∧ List.length x.2.2.2.1 ≤ 1000000 ∧ 2 ≤ 1000000) ∧ ((vc77_63 s x) = true → true = true ∧ ([], [], 0, 0) = (parseT s).1 ∧ (↑x.2.1 : Int) = (parseT s).2.1 ∧ firstS [bif bif (↑x.2.1 : Int) == 0 then true else bif decide (1 < (↑x.2.1 : Int)) then Int.tmod (↑x.2.1 : Int) (2 : Int) == 1 else false then 25 else 0, cabS (x.2.2.1, x.2.2.2.1, x.2.2.2.2.1, x.2.2.2.2.2)] = (parseT s).2.2) ∧ ((vc77_63 s x) = false → true = true ∧ (x.2.2.1, x.2.2.2.1, x.2.2.2.2.1, x.2.2.2.2.2) = (parseT s).1 ∧ 0 = (parseT s).2.1 ∧ 0 = (parseT s).2.2)))) := by
 intros
 kernel_rfl
theorem wp77 (s : ByteArray) : wpFG Tryz.prog G145 (na ()) (fun f id => if f = 168 then some (annPa s) else none) (Sx.look ([(136, Tryz.f136), (168, Tryz.f168), (164, Tryz.f164), (166, Tryz.f166), (167, Tryz.f167), (165, Tryz.f165), (135, Tryz.f135)] : List (Nat × Func))) Tryz.f77 cParseC (s, ()) := by
  refine (vc77 s).mpr ?_
  delta vc77_0 vc77_1 vc77_2 vc77_3 vc77_4 vc77_5 vc77_6 vc77_7 vc77_8 vc77_9 vc77_10 vc77_11 vc77_12 vc77_13 vc77_14 vc77_15 vc77_16 vc77_17 vc77_18 vc77_19 vc77_20 vc77_21 vc77_22 vc77_23 vc77_24 vc77_25 vc77_26 vc77_27 vc77_28 vc77_29 vc77_30 vc77_31 vc77_32 vc77_33 vc77_34 vc77_35 vc77_36 vc77_37 vc77_38 vc77_39 vc77_40 vc77_41 vc77_42 vc77_43 vc77_44 vc77_45 vc77_46 vc77_47 vc77_48 vc77_49 vc77_50 vc77_51 vc77_52 vc77_53 vc77_54 vc77_55 vc77_56 vc77_57 vc77_58 vc77_59 vc77_60 vc77_61 vc77_62 vc77_63 vc77_64 vc77_65 vc77_66 vc77_67 vc77_68 vc77_69 vc77_70 vc77_71 vc77_72 vc77_73
  delta I64
  refine ⟨fun h => ?_, fun h => ?_⟩
  · have h : 4096 < s.size := by have := of_decide_eq_true h
                                 omega
    have e : parseT s = ((zeroC, 0, 26) : Cab × Int × Int) := by unfold parseT; rw [if_pos h]
    rw [e]; exact ⟨rfl, rfl, rfl, rfl⟩
  have hs : ¬ 4096 < s.size := by have := of_decide_eq_false h
                                  omega
  have e : parseT s = parseC readI (splB 10 s.data.toList) 0 zeroC := by unfold parseT; rw [if_neg hs]
  refine ⟨⟨fun x y => by congr 1, fun _ => rfl⟩, (s, 0, zeroC), ⟨rfl, rfl, rfl, rfl, rfl, rfl, rfl, rfl, rfl, rfl, rfl, rfl, rfl⟩, ⟨by omega, by simp, by simp [zeroC], by simp [zeroC], e⟩, ?_⟩
  rintro ⟨r, k, S, J, p, q⟩ ⟨_, h1, h4, h5, h3⟩
  dsimp only at h1 h3 h4 h5 ⊢
  have hl : r.data.toList.length = r.size := by simp
  refine ⟨fun hr => ?_, fun hr => ?_⟩
  · have hr : 0 < r.size := by simpa using hr
    refine ⟨fun hi => ?_, fun hi => ?_⟩
    · have hi : 0 ≤ indexF r 10 := of_decide_eq_true hi
      obtain ⟨i, hi⟩ := Int.eq_ofNat_of_zero_le hi
      obtain ⟨a1, a2, a3⟩ := idx_hit r.data.toList i hi
      have ei : ((i : Int) + 1).toNat = i + 1 := by omega
      have e1 : r.extract 0 (i + 1) = bs (r.data.toList.take i ++ [10]) := by rw [ext_take, a3]
      have e2 := hasSuf_snoc (r.data.toList.take i) 10
      have e3 := cutSuf_snoc (r.data.toList.take i)
      have e4 := ext_drop r (i + 1)
      have sz : (bs (r.data.toList.take i)).size ≤ i := by rw [bs_size, List.length_take]; omega
      have sz1 : (bs (r.data.toList.take i ++ [10])).size ≤ i + 1 := by rw [bs_size, List.length_append, List.length_take]; simp; omega
      have sz2 : (bs (r.data.toList.drop (i + 1))).size = r.size - (i + 1) := by rw [bs_size, List.length_drop, hl]
      have ws : wordsS (bs (r.data.toList.take i)) (⟨⟨[32]⟩⟩ : ByteArray) = (splB 32 (r.data.toList.take i)).map bs := words_split _ 32
      have hwm := splB_len 32 (r.data.toList.take i)
      have hwc := splB_cnt 32 (r.data.toList.take i)
      obtain ⟨a, t, hat⟩ : ∃ a t, splB 32 (r.data.toList.take i) = a :: t := by
        cases hq : splB 32 (r.data.toList.take i) with
        | nil => exact absurd hq (splB_ne 32 _)
        | cons a t => exact ⟨a, t, rfl⟩
      rw [hat] at ws hwm hwc
      rw [List.map_cons] at ws
      rw [a2, parseC_cons _ (splB_ne _ _)] at h3
      have fN : ∀ s, atoN s = intN s := fun s => (intN_ato s).symm
      have fE : ∀ s, atoE s = eB s := fun _ => rfl
      have m0 : ((mpGet (Sch.int IntKind.i64) 0 formsL).getD ((⟨⟨[]⟩⟩ : ByteArray), none)).fst.toList = [99, 97, 98, 108, 101] := by rw [Lib.toList_data]; rfl
      have m1 : ((mpGet (Sch.int IntKind.i64) 1 formsL).getD ((⟨⟨[]⟩⟩ : ByteArray), none)).fst.toList = [115, 101, 99, 116, 105, 111, 110] := by rw [Lib.toList_data]; rfl
      have m2 : ((mpGet (Sch.int IntKind.i64) 2 formsL).getD ((⟨⟨[]⟩⟩ : ByteArray), none)).fst.toList = [106, 111, 105, 110, 116] := by rw [Lib.toList_data]; rfl
      have ha0 : (bs a :: t.map bs).getD 0 (⟨⟨[]⟩⟩ : ByteArray) = bs a := rfl
      have hal : (0 : Int) < ((bs a :: t.map bs).length : Nat) := by rw [List.length_cons]; omega
      have hal1 : (1 : Int) ≤ ((bs a :: t.map bs).length : Nat) := by rw [List.length_cons]; omega
      have eo : okLn readI k (r.data.toList.take i) = ((a == kindW k) && ((t.map bs).length == kindN k) && (t.map bs).all intB) := by
        unfold okLn
        rw [hat]
        simp only [List.headD_cons, List.tail_cons, List.all_map, List.length_map]
        rfl
      have en : numsL readI (r.data.toList.take i) = (t.map bs).map intN := by unfold numsL; rw [hat, List.tail_cons, List.map_map]; rfl
      have hts : ∀ x ∈ t.map bs, x.size ≤ 1000000 := fun x hx => by
        obtain ⟨y, hy, rfl⟩ := List.mem_map.1 hx
        have := hwm y (by simp [hy])
        rw [List.length_take] at this
        rw [bs_size]; omega
      have km : (k : Int).tmod 2 = ((k % 2 : Nat) : Int) := by rw [Int.tmod_eq_emod_of_nonneg (by omega)]; rfl
      have z2 : ((2 : Int) = 0) = False := by simp
      have z0 : ((0 : Int) ≤ 0) = True := by simp
      have z1 : ((0 : Int) ≤ 1) = True := by simp
      have d1 : List.drop 1 (List.take (bs a :: t.map bs).length (bs a :: t.map bs)) = t.map bs := dtl _
      rw [eo, en] at h3
      simp only [hi, ei, e1, e2, e3, e4, ws, d1, dtl, fN, fE, wB1, wB2, intN_rng, ha0, hal, hal1, m0, m1, m2, bs_toList, km, z0, z1, z2, beq_self_eq_true, Bool.not_true, cond_false, cond_true, Bool.cond_self, forall_const, implies_true, Bool.true_eq_false, Bool.false_eq_true, false_implies, true_implies, true_and, and_true]
      clear ws hwm hwc hat eo en d1 ha0 hal hal1
      generalize t.map bs = T at *
      have kb : (bif decide ((0 : Int) < (k : Int)) then (((k % 2 : Nat) : Int) == 1) else false) = decide (0 < k ∧ k % 2 = 1) := by
        by_cases q1 : 0 < k <;> by_cases q2 : k % 2 = 1 <;> simp [q1, q2] <;> omega
      rw [kb]
      refine ⟨by omega, ⟨by omega, by decide⟩, ⟨by omega, by decide⟩, fun hk => ?_, fun hk => ⟨fun hk1 => ?_, fun hk1 => ?_⟩⟩
      · obtain ⟨kp, k1⟩ := of_decide_eq_true hk
        have k0 : ¬ k = 0 := by omega
        have hn : kindN k = 2 := by unfold kindN; rw [if_neg k0, if_pos k1]
        have hw : kindW k = [115, 101, 99, 116, 105, 111, 110] := by unfold kindW; rw [if_neg k0, if_pos k1]
        have ha : ∀ ns : List Int, addC k (S, J, p, q) ns = (S ++ [(ns.getD 0 0, ns.getD 1 0)], J, p, q) := fun ns => by unfold addC; rw [if_neg k0, if_pos k1]
        rw [hn, hw] at h3
        match T, hts, h3 with
        | [], _, h3 =>
          have h3 : parseT s = ((zeroC, (k : Int), 25) : Cab × Int × Int) := by rw [h3]; simp
          rw [h3]
          exact ⟨Int.le_refl _, fun _ => ⟨fun _ => ⟨by omega, rfl, rfl, rfl⟩, fun h => absurd h (by decide)⟩, fun h => absurd h (by decide)⟩
        | [x], hts, h3 =>
          have h3 : parseT s = ((zeroC, (k : Int), 25) : Cab × Int × Int) := by rw [h3]; simp
          rw [h3]
          have hx := hts x (by simp)
          exact ⟨Int.le_refl _, fun h => absurd h (by simp), fun _ => ⟨⟨by simp, by simp⟩, ⟨by simp, by simp⟩, hx, ⟨fun _ => hx, fun _ => by decide⟩, fun _ => ⟨by omega, rfl, rfl, rfl⟩, fun h => absurd h (by simp)⟩⟩
        | x :: y :: Z, hts, h3 =>
          have hx := hts x (by simp)
          have hy := hts y (by simp)
          have eo : ((a == [115, 101, 99, 116, 105, 111, 110]) && ((x :: y :: Z).length == 2) && (x :: y :: Z).all intB) = ((a == [115, 101, 99, 116, 105, 111, 110]) && (Z.length == 0) && (intB x && intB y)) := by
            cases Z with
            | nil => simp
            | cons z Z => simp
          rw [eo] at h3
          refine ⟨Int.le_refl _, fun h => absurd h (by simp <;> omega), fun _ => ⟨⟨by simp <;> omega, by simp <;> omega⟩, ⟨by simp <;> omega, by simp⟩, hx, ⟨fun _ => hx, fun _ => by decide⟩, fun h => absurd h (by simp <;> omega), fun _ => ⟨⟨by simp <;> omega, by simp <;> omega⟩, ⟨by simp <;> omega, by simp⟩, hy, ⟨fun _ => hy, fun _ => by decide⟩, by omega, ?_⟩⟩⟩
          show ((bif (bif !(a == [115, 101, 99, 116, 105, 111, 110]) then true else (bif !intB x then true else !intB y)) then true else decide ((0 : Int) < (Z.length : Nat))) = true → _) ∧ ((bif (bif !(a == [115, 101, 99, 116, 105, 111, 110]) then true else (bif !intB x then true else !intB y)) then true else decide ((0 : Int) < (Z.length : Nat))) = false → _)
          rw [bad3]
          cases hb : ((a == [115, 101, 99, 116, 105, 111, 110]) && (Z.length == 0) && (intB x && intB y)) with
          | false =>
            rw [hb] at h3
            refine ⟨fun _ => ?_, fun h => (by cases h)⟩
            rw [h3]; exact ⟨rfl, rfl, rfl⟩
          | true =>
            rw [hb, if_pos rfl, ha] at h3
            exact ⟨fun h => (by cases h), fun _ => ⟨by omega, (bs (r.data.toList.drop (i + 1)), k + 1, S ++ [(intN x, intN y)], J, p, q), ⟨rfl, rfl, by simp, rfl, rfl, rfl⟩, ⟨by omega, by dsimp only; omega, by simp <;> omega, by simp <;> omega, h3⟩, by show (r.data.toList.drop (i + 1)).length < _; rw [List.length_drop]; omega⟩⟩
      · have k0 : ¬ k = 0 := by have := of_decide_eq_true hk1
                                omega
        have k1 : ¬ k % 2 = 1 := fun h => of_decide_eq_false hk ⟨by omega, h⟩
        have hn : kindN k = 1 := by unfold kindN; rw [if_neg k0, if_neg k1]
        have hw : kindW k = [106, 111, 105, 110, 116] := by unfold kindW; rw [if_neg k0, if_neg k1]
        have ha : ∀ ns : List Int, addC k (S, J, p, q) ns = (S, J ++ [ns.getD 0 0], p, q) := fun ns => by unfold addC; rw [if_neg k0, if_neg k1]
        rw [hn, hw] at h3
        match T, hts, h3 with
        | [], _, h3 =>
          have h3 : parseT s = ((zeroC, (k : Int), 25) : Cab × Int × Int) := by rw [h3]; simp
          rw [h3]
          exact ⟨Int.le_refl _, fun _ => ⟨by omega, rfl, rfl, rfl⟩, fun h => absurd h (by decide)⟩
        | x :: Z, hts, h3 =>
          have hx := hts x (by simp)
          have eo : ((a == [106, 111, 105, 110, 116]) && ((x :: Z).length == 1) && (x :: Z).all intB) = ((a == [106, 111, 105, 110, 116]) && (Z.length == 0) && intB x) := by
            cases Z with
            | nil => simp
            | cons z Z => simp
          rw [eo] at h3
          refine ⟨Int.le_refl _, fun h => absurd h (by simp <;> omega), fun _ => ⟨⟨by simp <;> omega, by simp <;> omega⟩, ⟨by simp <;> omega, by simp⟩, hx, ⟨fun _ => hx, fun _ => by decide⟩, by omega, ?_⟩⟩
          show ((bif (bif !(a == [106, 111, 105, 110, 116]) then true else !intB x) then true else decide ((0 : Int) < (Z.length : Nat))) = true → _) ∧ ((bif (bif !(a == [106, 111, 105, 110, 116]) then true else !intB x) then true else decide ((0 : Int) < (Z.length : Nat))) = false → _)
          rw [bad2]
          cases hb : ((a == [106, 111, 105, 110, 116]) && (Z.length == 0) && intB x) with
          | false =>
            rw [hb] at h3
            refine ⟨fun _ => ?_, fun h => (by cases h)⟩
            rw [h3]; exact ⟨rfl, rfl, rfl⟩
          | true =>
            rw [hb, if_pos rfl, ha] at h3
            exact ⟨fun h => (by cases h), fun _ => ⟨by omega, (bs (r.data.toList.drop (i + 1)), k + 1, S, J ++ [intN x], p, q), ⟨rfl, rfl, by simp, rfl, rfl, rfl⟩, ⟨by omega, by dsimp only; omega, by simp <;> omega, by simp <;> omega, h3⟩, by show (r.data.toList.drop (i + 1)).length < _; rw [List.length_drop]; omega⟩⟩
      · have k0 : k = 0 := by have := of_decide_eq_false hk1
                              omega
        have hn : kindN k = 2 := by unfold kindN; rw [if_pos k0]
        have hw : kindW k = [99, 97, 98, 108, 101] := by unfold kindW; rw [if_pos k0]
        have ha : ∀ ns : List Int, addC k (S, J, p, q) ns = (S, J, ns.getD 0 0, ns.getD 1 0) := fun ns => by unfold addC; rw [if_pos k0]
        rw [hn, hw] at h3
        match T, hts, h3 with
        | [], _, h3 =>
          have h3 : parseT s = ((zeroC, (k : Int), 25) : Cab × Int × Int) := by rw [h3]; simp
          rw [h3]
          exact ⟨Int.le_refl _, fun _ => ⟨fun _ => ⟨rfl, rfl, rfl⟩, fun h => absurd h (by decide)⟩, fun h => absurd h (by decide)⟩
        | [x], hts, h3 =>
          have h3 : parseT s = ((zeroC, (k : Int), 25) : Cab × Int × Int) := by rw [h3]; simp
          rw [h3]
          have hx := hts x (by simp)
          exact ⟨Int.le_refl _, fun h => absurd h (by simp), fun _ => ⟨⟨by simp, by simp⟩, ⟨by simp, by simp⟩, hx, ⟨fun _ => hx, fun _ => by decide⟩, fun _ => ⟨rfl, rfl, rfl⟩, fun h => absurd h (by simp)⟩⟩
        | x :: y :: Z, hts, h3 =>
          have hx := hts x (by simp)
          have hy := hts y (by simp)
          have eo : ((a == [99, 97, 98, 108, 101]) && ((x :: y :: Z).length == 2) && (x :: y :: Z).all intB) = ((a == [99, 97, 98, 108, 101]) && (Z.length == 0) && (intB x && intB y)) := by
            cases Z with
            | nil => simp
            | cons z Z => simp
          rw [eo] at h3
          refine ⟨Int.le_refl _, fun h => absurd h (by simp <;> omega), fun _ => ⟨⟨by simp <;> omega, by simp <;> omega⟩, ⟨by simp <;> omega, by simp⟩, hx, ⟨fun _ => hx, fun _ => by decide⟩, fun h => absurd h (by simp <;> omega), fun _ => ⟨⟨by simp <;> omega, by simp <;> omega⟩, ⟨by simp <;> omega, by simp⟩, hy, ⟨fun _ => hy, fun _ => by decide⟩, ?_⟩⟩⟩
          show ((bif (bif !(a == [99, 97, 98, 108, 101]) then true else (bif !intB x then true else !intB y)) then true else decide ((0 : Int) < (Z.length : Nat))) = true → _) ∧ ((bif (bif !(a == [99, 97, 98, 108, 101]) then true else (bif !intB x then true else !intB y)) then true else decide ((0 : Int) < (Z.length : Nat))) = false → _)
          rw [bad3]
          cases hb : ((a == [99, 97, 98, 108, 101]) && (Z.length == 0) && (intB x && intB y)) with
          | false =>
            rw [hb] at h3
            refine ⟨fun _ => ?_, fun h => (by cases h)⟩
            rw [h3]; exact ⟨rfl, rfl, rfl⟩
          | true =>
            rw [hb, if_pos rfl, ha] at h3
            exact ⟨fun h => (by cases h), fun _ => ⟨by omega, (bs (r.data.toList.drop (i + 1)), k + 1, S, J, intN x, intN y), ⟨rfl, rfl, by simp, rfl, rfl, rfl⟩, ⟨by omega, by dsimp only; omega, by simp <;> omega, by simp <;> omega, h3⟩, by show (r.data.toList.drop (i + 1)).length < _; rw [List.length_drop]; omega⟩⟩
    · have hi : ¬ 0 ≤ indexF r 10 := of_decide_eq_false hi
      have hg := Lib.indexByte_ge r.data.toList 10
      have hm : Lib.indexByte r.data.toList 10 = -1 := by
        have : ¬ 0 ≤ Lib.indexByte r.data.toList 10 := hi
        omega
      obtain ⟨a1, a2⟩ := idx_miss _ hm
      obtain ⟨d, x, hd⟩ : ∃ d x, r.data.toList = d ++ [x] := by
        rcases List.eq_nil_or_concat r.data.toList with h | ⟨d, x, h⟩
        · rw [h] at hl; simp at hl; omega
        · exact ⟨d, x, by simpa using h⟩
      have hx : ¬ x = 10 := by
        rintro rfl
        exact a2 (by rw [hd]; simp)
      have er : r = bs (d ++ [x]) := by rw [← hd]; rfl
      have e2 : hasSuf r (⟨⟨[10]⟩⟩ : ByteArray) = false := by rw [er, hasSuf_snoc]; simpa using hx
      have e3 : cutSuf r (⟨⟨[10]⟩⟩ : ByteArray) = r := by unfold cutSuf; rw [e2]; rfl
      have hne : ¬ r.data.toList = [] := by rw [hd]; simp
      have h3 : parseT s = ((zeroC, (k : Int), 25) : Cab × Int × Int) := by rw [h3, a1]; simp only [parseC, if_neg hne]
      have ws : wordsS r (⟨⟨[32]⟩⟩ : ByteArray) = (splB 32 r.data.toList).map bs := words_split r 32
      have hwm := splB_len 32 r.data.toList
      obtain ⟨a, t, hat⟩ : ∃ a t, splB 32 r.data.toList = a :: t := by
        cases hq : splB 32 r.data.toList with
        | nil => exact absurd hq (splB_ne 32 _)
        | cons a t => exact ⟨a, t, rfl⟩
      rw [hat] at ws hwm
      rw [List.map_cons] at ws
      have fN : ∀ s, atoN s = intN s := fun s => (intN_ato s).symm
      have fE : ∀ s, atoE s = eB s := fun _ => rfl
      have hal1 : (1 : Int) ≤ ((bs a :: t.map bs).length : Nat) := by rw [List.length_cons]; omega
      have hts : ∀ x ∈ t.map bs, x.size ≤ 1000000 := fun x hx => by
        obtain ⟨y, hy, rfl⟩ := List.mem_map.1 hx
        have := hwm y (by simp [hy])
        rw [bs_size]; omega
      have z2 : ((2 : Int) = 0) = False := by simp
      have z0 : ((0 : Int) ≤ 0) = True := by simp
      have z1 : ((0 : Int) ≤ 1) = True := by simp
      have d1 : List.drop 1 (List.take (bs a :: t.map bs).length (bs a :: t.map bs)) = t.map bs := dtl _
      simp only [e2, e3, ws, d1, dtl, fN, fE, wB1, wB2, intN_rng, hal1, z0, z1, z2, beq_self_eq_true, Bool.not_false, cond_false, cond_true, Bool.cond_self, forall_const, implies_true, Bool.true_eq_false, Bool.false_eq_true, false_implies, true_implies, true_and, and_true]
      clear ws hwm hat d1 hal1
      generalize t.map bs = T at *
      rw [h3]
      have hx : (T.getD 0 (⟨⟨[]⟩⟩ : ByteArray)).size ≤ 1000000 := by
        match T, hts with
        | [], _ => decide
        | x :: Z, hts => exact hts x (by simp)
      have hy : (T.tail.getD 0 (⟨⟨[]⟩⟩ : ByteArray)).size ≤ 1000000 := by
        match T, hts with
        | [], _ => decide
        | [x], _ => show (0 : Nat) ≤ 1000000; decide
        | x :: y :: Z, hts => exact hts y (by simp)
      have hp : ∀ l : List ByteArray, (((l.length : Nat) : Int) == 0) = false → (0 : Int) < (l.length : Nat) ∧ (1 : Int) ≤ (l.length : Nat) := fun l h => by
        have := beq_eq_false_iff_ne.1 h
        omega
      exact ⟨⟨by omega, by decide⟩, ⟨by omega, by decide⟩, fun _ => ⟨Int.le_refl _, fun _ => ⟨fun _ => ⟨by omega, rfl, rfl, rfl⟩, fun h => ⟨⟨(hp T h).1, (hp T h).1⟩, ⟨(hp T h).2, Int.le_refl _⟩, hx, by omega, rfl, rfl, rfl⟩⟩, fun h => ⟨⟨(hp T h).1, (hp T h).1⟩, ⟨(hp T h).2, Int.le_refl _⟩, hx, ⟨fun _ => hx, fun _ => by decide⟩, fun _ => ⟨by omega, rfl, rfl, rfl⟩, fun g => ⟨⟨(hp T.tail g).1, (hp T.tail g).1⟩, ⟨(hp T.tail g).2, Int.le_refl _⟩, hy, ⟨fun _ => hy, fun _ => by decide⟩, by omega, rfl, rfl, rfl⟩⟩⟩, fun _ => ⟨fun _ => ⟨Int.le_refl _, fun _ => ⟨by omega, rfl, rfl, rfl⟩, fun h => ⟨⟨(hp T h).1, (hp T h).1⟩, ⟨(hp T h).2, Int.le_refl _⟩, hx, ⟨fun _ => hx, fun _ => by decide⟩, by omega, rfl, rfl, rfl⟩⟩, fun _ => ⟨Int.le_refl _, fun _ => ⟨fun _ => ⟨rfl, rfl, rfl⟩, fun h => ⟨⟨(hp T h).1, (hp T h).1⟩, ⟨(hp T h).2, Int.le_refl _⟩, hx, rfl, rfl, rfl⟩⟩, fun h => ⟨⟨(hp T h).1, (hp T h).1⟩, ⟨(hp T h).2, Int.le_refl _⟩, hx, ⟨fun _ => hx, fun _ => by decide⟩, fun _ => ⟨rfl, rfl, rfl⟩, fun g => ⟨⟨(hp T.tail g).1, (hp T.tail g).1⟩, ⟨(hp T.tail g).2, Int.le_refl _⟩, hy, ⟨fun _ => hy, fun _ => by decide⟩, rfl, rfl, rfl⟩⟩⟩⟩⟩
  · have hr : r.size = 0 := by have : ¬ ((0 : Int) < r.size) := by simpa using hr
                               omega
    have hn : r.data.toList = [] := List.eq_nil_of_length_eq_zero (by omega)
    rw [hn] at h3
    have h4' : parseC readI (splB 10 []) k (S, J, p, q) = finC (S, J, p, q) k := rfl
    rw [h4'] at h3
    unfold finC at h3
    have km : (k : Int).tmod 2 = ((k % 2 : Nat) : Int) := by rw [Int.tmod_eq_emod_of_nonneg (by omega)]; rfl
    have kb : (bif (bif ((k : Int) == 0) then true else (bif decide ((1 : Int) < (k : Int)) then (k : Int).tmod 2 == 1 else false)) then (25 : Int) else 0) = if k = 0 ∨ 1 < k ∧ k % 2 = 1 then 25 else 0 := by
      rw [km]
      have k0 : ((k : Int) == 0) = decide (k = 0) := by rw [Bool.eq_iff_iff, beq_iff_eq, decide_eq_true_eq]; omega
      have k1 : decide ((1 : Int) < (k : Int)) = decide (1 < k) := by rw [Bool.eq_iff_iff, decide_eq_true_eq, decide_eq_true_eq]; omega
      have k2 : (((k % 2 : Nat) : Int) == 1) = decide (k % 2 = 1) := by rw [Bool.eq_iff_iff, beq_iff_eq, decide_eq_true_eq]; omega
      rw [k0, k1, k2]
      by_cases a1 : k = 0 <;> by_cases a2 : 1 < k <;> by_cases a3 : k % 2 = 1 <;> simp [a1, a2, a3]
    rw [kb]
    refine ⟨⟨fun _ => by decide, by omega, by omega, by decide⟩, ?_⟩
    by_cases hk : k = 0 ∨ 1 < k ∧ k % 2 = 1
    · rw [if_pos hk] at h3 ⊢
      have ef : firstS [25, cabS (S, J, p, q)] = 25 := rfl
      rw [ef, h3]
      exact ⟨fun _ => ⟨rfl, rfl, rfl, rfl⟩, fun h => (by cases h)⟩
    · rw [if_neg hk] at h3 ⊢
      have ef : firstS [0, cabS (S, J, p, q)] = cabS (S, J, p, q) := by
        show (if cabS (S, J, p, q) = 0 then (0 : Int) else cabS (S, J, p, q)) = _
        split
        · rename_i h; exact h.symm
        · rfl
      rw [ef]
      refine ⟨fun hc => ?_, fun hc => ?_⟩
      · have hc : ¬ cabS (S, J, p, q) = 0 := bne_iff_ne.1 hc
        rw [if_neg hc] at h3
        rw [h3]; exact ⟨rfl, rfl, rfl, rfl⟩
      · have hc : cabS (S, J, p, q) = 0 := bne_eq_false_iff_eq.1 hc
        rw [if_pos hc] at h3
        rw [h3]; exact ⟨rfl, rfl, rfl, rfl⟩
theorem ok77 : Ok Tryz.prog 77 cParseC := ok_of_wpG mixed g145 (by kernel_rfl) (by kernel_rfl) (lib_ok (List.forall_mem_cons.2 ⟨by kernel_rfl, List.forall_mem_cons.2 ⟨by kernel_rfl, List.forall_mem_cons.2 ⟨by kernel_rfl, List.forall_mem_cons.2 ⟨by kernel_rfl, List.forall_mem_cons.2 ⟨by kernel_rfl, List.forall_mem_cons.2 ⟨by kernel_rfl, List.forall_mem_cons.2 ⟨by kernel_rfl, by simp⟩⟩⟩⟩⟩⟩⟩)) (fun xx => na ()) (fun xx => fun f id => if f = 168 then some (annPa xx.1) else none) fun xx => wp77 xx.1
abbrev G146 : Gam := (77, cParseC) :: G145
theorem g146 : GamOk Tryz.prog G146 := .cons ok77 g145
end Go.Proofs.YtcledkhhecdppaaGreatDoor
