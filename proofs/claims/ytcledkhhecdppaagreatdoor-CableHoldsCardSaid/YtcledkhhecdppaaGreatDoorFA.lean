/- Contracts of the functions that the laws reach: part of the proof. -/
import Derived.Test.YtcledkhhecdppaaGreatDoorProg
import Derived.Test.YtcledkhhecdppaaGreatDoorSxC
import Derived.Test.YtcledkhhecdppaaGreatDoorShelfA
import Derived.Test.YtcledkhhecdppaaGreatDoorLayA
import Derived.KernelRfl
set_option linter.unusedSimpArgs false
set_option linter.unusedVariables false
set_option maxRecDepth 20000
namespace Go.Proofs.YtcledkhhecdppaaGreatDoor
open Go.Sx
abbrev I : Bool × Sch := (false, .int .i64)
abbrev Bo : Bool × Sch := (false, .bool)
abbrev aI : AK := .val false (.int .i64)
abbrev aB : AK := .val false .bool
abbrev aS : AK := .val false .str
abbrev tS : Bool × Sch := (false, .str)
abbrev sI : Sch := .int .i64
abbrev sPt : Sch := .prod sI sI
abbrev Pr : Bool × Sch := (true, .prod sI sI)
abbrev aP : AK := .val true sPt
abbrev G0 : Gam := []
theorem g0 [Sx.Dr] : GamOk Tryz.prog G0 := .nil _
theorem mixed : Tryz.prog.follows .mixedOrders = true := by kernel_rfl
abbrev na {α : Type} : α → Nat → Option Ann := fun _ _ => none
abbrev ann0 (A : Ann) : Nat → Option Ann := fun k => if k = 0 then some A else none
def cWhen : Con := { args := [aB, aI], ress := [I], owns := [], pre := fun _ => [], spec := fun (b, e, _) => (bif b then e else 0, ()) }
theorem vc105 : ∀ (b : Bool) (e : Int), wpF Tryz.prog G0 (na ()) Tryz.f105 cWhen (b, e, ()) = ((b = true → e = bif b then e else 0) ∧ (b = false → 0 = bif b then e else 0)) := by
 intros
 kernel_rfl
theorem wp105 (b : Bool) (e : Int) : wpF Tryz.prog G0 (na ()) Tryz.f105 cWhen (b, e, ()) := by
 refine (vc105 b e).mpr ?_
 cases b <;> simp
theorem ok105 [Sx.Dr] : Ok Tryz.prog 105 cWhen := ok_of_wp mixed g0 (by kernel_rfl) (by kernel_rfl) na fun xx => wp105 xx.1 xx.2.1
abbrev G1 : Gam := (105, cWhen) :: G0
theorem g1 [Sx.Dr] : GamOk Tryz.prog G1 := .cons ok105 g0
theorem vc64 : ∀ (b : Bool) (e : Int), wpF Tryz.prog G1 (na ()) Tryz.f64 cWhen (b, e, ()) = ((b = true → e = bif b then e else 0) ∧ (b = false → 0 = bif b then e else 0)) := by
 intros
 kernel_rfl
theorem wp64 (b : Bool) (e : Int) : wpF Tryz.prog G1 (na ()) Tryz.f64 cWhen (b, e, ()) := by
 refine (vc64 b e).mpr ?_
 cases b <;> simp
theorem ok64 [Sx.Dr] : Ok Tryz.prog 64 cWhen := ok_of_wp mixed g1 (by kernel_rfl) (by kernel_rfl) na fun xx => wp64 xx.1 xx.2.1
abbrev G2 : Gam := (64, cWhen) :: G1
theorem g2 [Sx.Dr] : GamOk Tryz.prog G2 := .cons ok64 g1
def withinS (n lo hi : Int) : Int := bif decide (n < lo) || decide (hi < n) then 3 else 0
def cWithin : Con := { args := [aI, aI, aI], ress := [I], owns := [], pre := fun _ => [], spec := fun (n, lo, hi, _) => (withinS n lo hi, ()) }
theorem vc94 : ∀ (n lo hi : Int), wpF Tryz.prog G2 (na ()) Tryz.f94 cWithin (n, lo, hi, ()) = ((bif bif decide (n < lo) then true else decide (hi < n) then 3 else 0) = withinS n lo hi) := by
 intros
 kernel_rfl
theorem wp94 (n lo hi : Int) : wpF Tryz.prog G2 (na ()) Tryz.f94 cWithin (n, lo, hi, ()) := by
 refine (vc94 n lo hi).mpr ?_
 unfold withinS; cases decide (n < lo) <;> rfl
theorem ok94 [Sx.Dr] : Ok Tryz.prog 94 cWithin := ok_of_wp mixed g2 (by kernel_rfl) (by kernel_rfl) na fun xx => wp94 xx.1 xx.2.1 xx.2.2.1
abbrev G3 : Gam := (94, cWithin) :: G2
theorem g3 [Sx.Dr] : GamOk Tryz.prog G3 := .cons ok94 g2
theorem vc45 : ∀ (n lo hi : Int), wpF Tryz.prog G3 (na ()) Tryz.f45 cWithin (n, lo, hi, ()) = ((bif bif decide (n < lo) then true else decide (hi < n) then 3 else 0) = withinS n lo hi) := by
 intros
 kernel_rfl
theorem wp45 (n lo hi : Int) : wpF Tryz.prog G3 (na ()) Tryz.f45 cWithin (n, lo, hi, ()) := by
 refine (vc45 n lo hi).mpr ?_
 unfold withinS; cases decide (n < lo) <;> rfl
theorem ok45 [Sx.Dr] : Ok Tryz.prog 45 cWithin := ok_of_wp mixed g3 (by kernel_rfl) (by kernel_rfl) na fun xx => wp45 xx.1 xx.2.1 xx.2.2.1
abbrev G4 : Gam := (45, cWithin) :: G3
theorem g4 [Sx.Dr] : GamOk Tryz.prog G4 := .cons ok45 g3
def firstS : List Int → Int
 | [] => 0
 | x :: l => if x = 0 then firstS l else x
theorem firstS_drop {l : List Int} {k : Nat} (h : k < l.length) : firstS (l.drop k) = if l.getD k 0 = 0 then firstS (l.drop (k + 1)) else l.getD k 0 := by
 rw [List.drop_eq_getElem_cons h]
 simp [firstS, List.getD_eq_getElem?_getD, h]
def cFirst : Con := { args := [.val false (.list 32 sI)], ress := [I], owns := [], pre := fun (l, _) => [l.length ≤ 1000000], spec := fun (l, _) => (firstS l, ()) }
abbrev annFirst (l : List Int) : Ann := { X := Nat, σ := fun k => ⟨1, [(5, .one (.sl 0)), (6, .one (.int .i64 l.length)), (7, .one (.int .i64 k))], [(0, .imm 32 sI l)]⟩, inv := fun k => k ≤ l.length ∧ firstS l = firstS (l.drop k), mu := fun k => l.length - k }
theorem vc92 : ∀ (l : List Int), wpF Tryz.prog G4 (ann0 (annFirst l)) Tryz.f92 cFirst (l, ()) = (List.length l ≤ 1000000 → ∃ (x : Nat), ((↑(List.length l) : Int) = (↑(List.length l) : Int) ∧ 0 = (↑x : Int) ∧ l = l) ∧ (x ≤ List.length l ∧ firstS l = firstS (List.drop x l)) ∧ ∀ (x : Nat), x ≤ List.length l ∧ firstS l = firstS (List.drop x l) → (decide ((↑x : Int) < (↑(List.length l) : Int)) = true → ((0 ≤ (↑x : Int) ∧ (↑x : Int) < (↑(List.length l) : Int)) ∧ 0 ≤ (↑x : Int) ∧ (↑x : Int) < (↑(List.length l) : Int)) ∧ ((List.getD l x (0 : Int) != 0) = true → List.getD l x 0 = firstS l) ∧ ((List.getD l x (0 : Int) != 0) = false → ((-9223372036854775808) ≤ (↑x : Int) + 1 ∧ (↑x : Int) + (1 : Int) ≤ 9223372036854775807) ∧ ∃ (y : Nat), ((↑(List.length l) : Int) = (↑(List.length l) : Int) ∧ (↑x : Int) + 1 = (↑y : Int) ∧ l = l) ∧ (y ≤ List.length l ∧ firstS l = firstS (List.drop y l)) ∧ List.length l - y < List.length l - x)) ∧ (decide ((↑x : Int) < (↑(List.length l) : Int)) = false → 0 = firstS l)) := by
 intros
 kernel_rfl
theorem wp92 (l : List Int) : wpF Tryz.prog G4 (ann0 (annFirst l)) Tryz.f92 cFirst (l, ()) := by
 refine (vc92 l).mpr ?_
 intro hb
 refine ⟨(0 : Nat), ⟨rfl, rfl, rfl⟩, ⟨Nat.zero_le _, rfl⟩, fun (k : Nat) hk => ⟨fun h => ?_, fun h => ?_⟩⟩
 ·have hlt : k < l.length := by simpa using h
  have hd := firstS_drop hlt
  refine ⟨by omega, fun h1 => ?_, fun h1 => ⟨by omega, (k + 1 : Nat), ⟨rfl, by simp, rfl⟩, ⟨by omega, ?_⟩, by omega⟩⟩
  ·have h2 : ¬ l.getD k 0 = 0 := by simpa using h1
   rw [hk.2, hd, if_neg h2]
  ·have h2 : l.getD k 0 = 0 := by simpa using h1
   rw [hk.2, hd, if_pos h2]
 ·have hlt : ¬ k < l.length := by simpa using h
  have : k = l.length := by omega
  rw [hk.2, this, List.drop_length]; rfl
theorem ok92 [Sx.Dr] : Ok Tryz.prog 92 cFirst := ok_of_wp mixed g4 (by kernel_rfl) (by kernel_rfl) (fun xx => ann0 (annFirst xx.1)) fun xx => wp92 xx.1
abbrev G5 : Gam := (92, cFirst) :: G4
theorem g5 [Sx.Dr] : GamOk Tryz.prog G5 := .cons ok92 g4
def cFirstR : Con := { args := [.val false (.list 3 sI)], ress := [I], owns := [], pre := fun (l, _) => [l.length ≤ 1000000], spec := fun (l, _) => (firstS l, ()) }
abbrev annFirstR (l : List Int) : Ann := { X := Nat, σ := fun k => ⟨1, [(0, .one (.sl 0)), (3, .one (.int .i64 k))], [(0, .imm 3 sI l)]⟩, inv := fun k => k ≤ l.length ∧ firstS l = firstS (l.drop k), mu := fun k => l.length - k }
theorem vc24 : ∀ (l : List Int), wpF Tryz.prog G5 (ann0 (annFirstR l)) Tryz.f24 cFirstR (l, ()) = (List.length l ≤ 1000000 → ∃ (x : Nat), (0 = (↑x : Int) ∧ l = l) ∧ (x ≤ List.length l ∧ firstS l = firstS (List.drop x l)) ∧ ∀ (x : Nat), x ≤ List.length l ∧ firstS l = firstS (List.drop x l) → (decide ((↑x : Int) < (↑(List.length l) : Int)) = true → ((0 ≤ (↑x : Int) ∧ (↑x : Int) < (↑(List.length l) : Int)) ∧ 0 ≤ (↑x : Int) ∧ (↑x : Int) < (↑(List.length l) : Int)) ∧ ((List.getD l x (0 : Int) != 0) = true → ((0 ≤ (↑x : Int) ∧ (↑x : Int) < (↑(List.length l) : Int)) ∧ 0 ≤ (↑x : Int) ∧ (↑x : Int) < (↑(List.length l) : Int)) ∧ List.getD l x 0 = firstS l) ∧ ((List.getD l x (0 : Int) != 0) = false → ((-9223372036854775808) ≤ (↑x : Int) + 1 ∧ (↑x : Int) + (1 : Int) ≤ 9223372036854775807) ∧ ∃ (y : Nat), ((↑x : Int) + 1 = (↑y : Int) ∧ l = l) ∧ (y ≤ List.length l ∧ firstS l = firstS (List.drop y l)) ∧ List.length l - y < List.length l - x)) ∧ (decide ((↑x : Int) < (↑(List.length l) : Int)) = false → 0 = firstS l)) := by
 intros
 kernel_rfl
theorem wp24 (l : List Int) : wpF Tryz.prog G5 (ann0 (annFirstR l)) Tryz.f24 cFirstR (l, ()) := by
 refine (vc24 l).mpr ?_
 intro hb
 refine ⟨(0 : Nat), ⟨rfl, rfl⟩, ⟨Nat.zero_le _, rfl⟩, fun (k : Nat) hk => ⟨fun h => ?_, fun h => ?_⟩⟩
 ·have hlt : k < l.length := by simpa using h
  have hd := firstS_drop hlt
  refine ⟨by omega, fun h1 => ⟨by omega, ?_⟩, fun h1 => ⟨by omega, (k + 1 : Nat), ⟨by simp, rfl⟩, ⟨by omega, ?_⟩, by omega⟩⟩
  ·have h2 : ¬ l.getD k 0 = 0 := by simpa using h1
   rw [hk.2, hd, if_neg h2]
  ·have h2 : l.getD k 0 = 0 := by simpa using h1
   rw [hk.2, hd, if_pos h2]
 ·have hlt : ¬ k < l.length := by simpa using h
  have : k = l.length := by omega
  rw [hk.2, this, List.drop_length]; rfl
theorem ok24 [Sx.Dr] : Ok Tryz.prog 24 cFirstR := ok_of_wp mixed g5 (by kernel_rfl) (by kernel_rfl) (fun xx => ann0 (annFirstR xx.1)) fun xx => wp24 xx.1
abbrev G6 : Gam := (24, cFirstR) :: G5
theorem g6 [Sx.Dr] : GamOk Tryz.prog G6 := .cons ok24 g5
def gcdS (a b : Int) : Int := Int.gcd a b
def cDivisor : Con := { args := [aI, aI], ress := [I], owns := [], pre := fun (n, den, _) => [-9200000000000000000 ≤ n ∧ n ≤ 9200000000000000000, 0 ≤ den ∧ den ≤ 9200000000000000000], spec := fun (n, den, _) => (gcdS n den, ()) }
theorem gcd_step (a b n den : Int) (h : Int.gcd a b = Int.gcd n den) : Int.gcd b (a.tmod b) = Int.gcd n den := by
 rw [← h, Int.gcd_comm a b]
 unfold Int.gcd
 rw [Int.natAbs_tmod, Nat.gcd_comm, ← Nat.gcd_rec]
theorem tmod_lt {a b : Int} (hb : b ≠ 0) : (a.tmod b).natAbs < b.natAbs := by rw [Int.natAbs_tmod]; exact Nat.mod_lt _ (by omega)
abbrev annDiv (n den : Int) : Ann := { X := Int × Int, σ := fun (a, b) => ⟨0, [(0, .one (.int .i64 a)), (1, .one (.int .i64 b))], []⟩, inv := fun (a, b) => -9200000000000000000 ≤ a ∧ a ≤ 9200000000000000000 ∧ -9200000000000000000 ≤ b ∧ b ≤ 9200000000000000000 ∧ Int.gcd a b = Int.gcd n den, mu := fun (_, b) => b.natAbs }
theorem vc160 : ∀ (n den : Int), wpF Tryz.prog G6 (ann0 (annDiv n den)) Tryz.f160 cDivisor (n, den, ()) = ((-9200000000000000000) ≤ n ∧ n ≤ 9200000000000000000 → 0 ≤ den ∧ den ≤ 9200000000000000000 → ∃ (x : Int × Int), (n = x.1 ∧ den = x.2) ∧ ((-9200000000000000000) ≤ x.1 ∧ x.1 ≤ 9200000000000000000 ∧ (-9200000000000000000) ≤ x.2 ∧ x.2 ≤ 9200000000000000000 ∧ Int.gcd x.1 x.2 = Int.gcd n den) ∧ ∀ (x : Int × Int), (-9200000000000000000) ≤ x.1 ∧ x.1 ≤ 9200000000000000000 ∧ (-9200000000000000000) ≤ x.2 ∧ x.2 ≤ 9200000000000000000 ∧ Int.gcd x.1 x.2 = Int.gcd n den → ((x.2 != 0) = true → (x.2 = 0 → False) ∧ ∃ (y : Int × Int), (x.2 = y.1 ∧ Int.tmod x.1 x.2 = y.2) ∧ ((-9200000000000000000) ≤ y.1 ∧ y.1 ≤ 9200000000000000000 ∧ (-9200000000000000000) ≤ y.2 ∧ y.2 ≤ 9200000000000000000 ∧ Int.gcd y.1 y.2 = Int.gcd n den) ∧ Int.natAbs y.2 < Int.natAbs x.2) ∧ ((x.2 != 0) = false → ((-9223372036854775808 : Int) ≤ 0 - x.1 ∧ 0 - x.1 ≤ 9223372036854775807) ∧ max x.1 (0 - x.1) = gcdS n den)) := by
 intros
 kernel_rfl
theorem wp160 (n den : Int) : wpF Tryz.prog G6 (ann0 (annDiv n den)) Tryz.f160 cDivisor (n, den, ()) := by
 refine (vc160 n den).mpr ?_
 intro h1 h2
 refine ⟨(n, den), ⟨rfl, rfl⟩, ⟨by simp only; omega, by simp only; omega, by simp only; omega, by simp only; omega, rfl⟩, ?_⟩
 rintro ⟨a, b⟩ ⟨i1, i2, i3, i4, i5⟩
 dsimp only at i1 i2 i3 i4 i5 ⊢
 refine ⟨fun h => ?_, fun h => ?_⟩
 ·have hb : b ≠ 0 := by simpa using h
  have hl := tmod_lt (a := a) hb
  exact ⟨hb, (b, a.tmod b), ⟨rfl, rfl⟩, ⟨i3, i4, by dsimp only; omega, by dsimp only; omega, gcd_step a b n den i5⟩, hl⟩
 ·have hb : b = 0 := by simpa using h
  subst hb
  have e : gcdS n den = a.natAbs := by unfold gcdS; rw [← i5]; simp
  rw [e]
  exact ⟨by omega, by omega⟩
theorem ok160 [Sx.Dr] : Ok Tryz.prog 160 cDivisor := ok_of_wp mixed g6 (by kernel_rfl) (by kernel_rfl) (fun xx => ann0 (annDiv xx.1 xx.2.1)) fun xx => wp160 xx.1 xx.2.1
abbrev G7 : Gam := (160, cDivisor) :: G6
theorem g7 [Sx.Dr] : GamOk Tryz.prog G7 := .cons ok160 g6
theorem vc161 : ∀ (n den : Int), wpF Tryz.prog G7 (ann0 (annDiv n den)) Tryz.f161 cDivisor (n, den, ()) = ((-9200000000000000000) ≤ n ∧ n ≤ 9200000000000000000 → 0 ≤ den ∧ den ≤ 9200000000000000000 → ∃ (x : Int × Int), (n = x.1 ∧ den = x.2) ∧ ((-9200000000000000000) ≤ x.1 ∧ x.1 ≤ 9200000000000000000 ∧ (-9200000000000000000) ≤ x.2 ∧ x.2 ≤ 9200000000000000000 ∧ Int.gcd x.1 x.2 = Int.gcd n den) ∧ ∀ (x : Int × Int), (-9200000000000000000) ≤ x.1 ∧ x.1 ≤ 9200000000000000000 ∧ (-9200000000000000000) ≤ x.2 ∧ x.2 ≤ 9200000000000000000 ∧ Int.gcd x.1 x.2 = Int.gcd n den → ((x.2 != 0) = true → (x.2 = 0 → False) ∧ ∃ (y : Int × Int), (x.2 = y.1 ∧ Int.tmod x.1 x.2 = y.2) ∧ ((-9200000000000000000) ≤ y.1 ∧ y.1 ≤ 9200000000000000000 ∧ (-9200000000000000000) ≤ y.2 ∧ y.2 ≤ 9200000000000000000 ∧ Int.gcd y.1 y.2 = Int.gcd n den) ∧ Int.natAbs y.2 < Int.natAbs x.2) ∧ ((x.2 != 0) = false → (decide (x.1 < 0) = true → ((-9223372036854775808 : Int) ≤ 0 - x.1 ∧ 0 - x.1 ≤ 9223372036854775807) ∧ 0 - x.1 = gcdS n den) ∧ (decide (x.1 < 0) = false → x.1 = gcdS n den))) := by
 intros
 kernel_rfl
theorem wp161 (n den : Int) : wpF Tryz.prog G7 (ann0 (annDiv n den)) Tryz.f161 cDivisor (n, den, ()) := by
 refine (vc161 n den).mpr ?_
 intro h1 h2
 refine ⟨(n, den), ⟨rfl, rfl⟩, ⟨by simp only; omega, by simp only; omega, by simp only; omega, by simp only; omega, rfl⟩, ?_⟩
 rintro ⟨a, b⟩ ⟨i1, i2, i3, i4, i5⟩
 dsimp only at i1 i2 i3 i4 i5 ⊢
 refine ⟨fun h => ?_, fun h => ?_⟩
 ·have hb : b ≠ 0 := by simpa using h
  have hl := tmod_lt (a := a) hb
  exact ⟨hb, (b, a.tmod b), ⟨rfl, rfl⟩, ⟨i3, i4, by dsimp only; omega, by dsimp only; omega, gcd_step a b n den i5⟩, hl⟩
 ·have hb : b = 0 := by simpa using h
  subst hb
  have e : gcdS n den = a.natAbs := by unfold gcdS; rw [← i5]; simp
  rw [e]
  refine ⟨fun h => ⟨by omega, ?_⟩, fun h => ?_⟩
  ·have h : a < 0 := by simpa using h
   omega
  ·have h : ¬ a < 0 := by simpa using h
   omega
theorem ok161 [Sx.Dr] : Ok Tryz.prog 161 cDivisor := ok_of_wp mixed g7 (by kernel_rfl) (by kernel_rfl) (fun xx => ann0 (annDiv xx.1 xx.2.1)) fun xx => wp161 xx.1 xx.2.1
abbrev G8 : Gam := (161, cDivisor) :: G7
theorem g8 [Sx.Dr] : GamOk Tryz.prog G8 := .cons ok161 g7
def lowestS (n d : Int) : Int × Int := (n.tdiv (gcdS n d), d.tdiv (gcdS n d))
theorem gcdS_pos {n d : Int} (h : 0 < d) : 0 < gcdS n d := by
 unfold gcdS
 have := Nat.gcd_pos_of_pos_right (m := n.natAbs) (n := d.natAbs) (by omega)
 unfold Int.gcd
 omega
theorem tdiv_bd {a g B : Int} (h : -B ≤ a ∧ a ≤ B) : -B ≤ a.tdiv g ∧ a.tdiv g ≤ B := by
 have h1 : (a.tdiv g).natAbs ≤ a.natAbs := by rw [Int.natAbs_tdiv]; exact Nat.div_le_self _ _
 omega
theorem tdiv_gcd_pos {n d : Int} (h : 0 < d) : 0 < d.tdiv (gcdS n d) := by
 have h1 := gcdS_pos (n := n) h
 have h2 : gcdS n d ∣ d := Int.gcd_dvd_right n d
 obtain ⟨k, hk⟩ := h2
 have h3 : d.tdiv (gcdS n d) = k := by
  rw [Int.tdiv_eq_ediv_of_nonneg (by omega)]
  exact Int.ediv_eq_of_eq_mul_right (by omega) hk
 rw [h3]
 rcases Int.lt_or_le 0 k with hk' | hk'
 ·exact hk'
 ·have := Int.mul_nonpos_of_nonneg_of_nonpos (Int.le_of_lt h1) hk'
  omega
theorem mul_bd {a b A B : Int} (ha : -A ≤ a ∧ a ≤ A) (hb : -B ≤ b ∧ b ≤ B) : -(A * B) ≤ a * b ∧ a * b ≤ A * B := by
 have h1 : (a * b).natAbs ≤ A.natAbs * B.natAbs := by rw [Int.natAbs_mul]; exact Nat.mul_le_mul (by omega) (by omega)
 have h2 : ((A.natAbs * B.natAbs : Nat) : Int) = A * B := by
  rw [Int.natCast_mul]
  congr 1 <;> omega
 omega
def cLowest : Con := { args := [aI, aI], ress := [Pr], owns := [], pre := fun (n, den, _) => [-9200000000000000000 ≤ n ∧ n ≤ 9200000000000000000, 0 < den ∧ den ≤ 9200000000000000000], spec := fun (n, den, _) => (lowestS n den, ()) }
theorem vc120 : ∀ (n den : Int), wpF Tryz.prog G8 (na ()) Tryz.f120 cLowest (n, den, ()) = ((-9200000000000000000) ≤ n ∧ n ≤ 9200000000000000000 → 0 < den ∧ den ≤ 9200000000000000000 → (((-9200000000000000000) ≤ n ∧ n ≤ 9200000000000000000) ∧ 0 ≤ den ∧ den ≤ 9200000000000000000) ∧ ((gcdS n den = 0 → False) ∧ (I64 (Int.tdiv n (gcdS n den))) ∧ (gcdS n den = 0 → False) ∧ I64 (Int.tdiv den (gcdS n den))) ∧ (Int.tdiv n (gcdS n den), Int.tdiv den (gcdS n den)) = lowestS n den) := by
 intros
 kernel_rfl
theorem wp120 (n den : Int) : wpF Tryz.prog G8 (na ()) Tryz.f120 cLowest (n, den, ()) := by
 refine (vc120 n den).mpr ?_
 delta I64
 intro h1 h2
 have hg := gcdS_pos (n := n) h2.1
 have b1 := tdiv_bd (g := gcdS n den) (B := 9200000000000000000) ⟨by omega, h1.2⟩
 have b2 := tdiv_bd (a := den) (g := gcdS n den) (B := 9200000000000000000) ⟨by omega, h2.2⟩
 exact ⟨by omega, ⟨by omega, by omega, by omega, by omega⟩, rfl⟩
theorem ok120 [Sx.Dr] : Ok Tryz.prog 120 cLowest := ok_of_wp mixed g8 (by kernel_rfl) (by kernel_rfl) na fun xx => wp120 xx.1 xx.2.1
abbrev G9 : Gam := (120, cLowest) :: G8
theorem g9 [Sx.Dr] : GamOk Tryz.prog G9 := .cons ok120 g8
theorem vc123 : ∀ (n den : Int), wpF Tryz.prog G9 (na ()) Tryz.f123 cLowest (n, den, ()) = ((-9200000000000000000) ≤ n ∧ n ≤ 9200000000000000000 → 0 < den ∧ den ≤ 9200000000000000000 → (decide (den < 0) = true → (((-9223372036854775808 : Int) ≤ 0 - n ∧ 0 - n ≤ 9223372036854775807) ∧ (-9223372036854775808 : Int) ≤ 0 - den ∧ 0 - den ≤ 9223372036854775807) ∧ (((-9200000000000000000 : Int) ≤ 0 - n ∧ 0 - n ≤ 9200000000000000000) ∧ (0 : Int) ≤ 0 - den ∧ 0 - den ≤ 9200000000000000000) ∧ ((gcdS (0 - n) (0 - den) = 0 → False) ∧ (I64 (Int.tdiv (0 - n) (gcdS (0 - n) (0 - den)))) ∧ (gcdS (0 - n) (0 - den) = 0 → False) ∧ I64 (Int.tdiv (0 - den) (gcdS (0 - n) (0 - den)))) ∧ (Int.tdiv (0 - n) (gcdS (0 - n) (0 - den)), Int.tdiv (0 - den) (gcdS (0 - n) (0 - den))) = lowestS n den) ∧ (decide (den < 0) = false → (((-9200000000000000000) ≤ n ∧ n ≤ 9200000000000000000) ∧ 0 ≤ den ∧ den ≤ 9200000000000000000) ∧ ((gcdS n den = 0 → False) ∧ (I64 (Int.tdiv n (gcdS n den))) ∧ (gcdS n den = 0 → False) ∧ I64 (Int.tdiv den (gcdS n den))) ∧ (Int.tdiv n (gcdS n den), Int.tdiv den (gcdS n den)) = lowestS n den)) := by
 intros
 kernel_rfl
theorem wp123 (n den : Int) : wpF Tryz.prog G9 (na ()) Tryz.f123 cLowest (n, den, ()) := by
 refine (vc123 n den).mpr ?_
 delta I64
 intro h1 h2
 have hg := gcdS_pos (n := n) h2.1
 have b1 := tdiv_bd (g := gcdS n den) (B := 9200000000000000000) ⟨by omega, h1.2⟩
 have b2 := tdiv_bd (a := den) (g := gcdS n den) (B := 9200000000000000000) ⟨by omega, h2.2⟩
 refine ⟨fun h => absurd (of_decide_eq_true h) (by omega), fun _ => ⟨by omega, ⟨by omega, by omega, by omega, by omega⟩, rfl⟩⟩
theorem ok123 [Sx.Dr] : Ok Tryz.prog 123 cLowest := ok_of_wp mixed g9 (by kernel_rfl) (by kernel_rfl) na fun xx => wp123 xx.1 xx.2.1
abbrev G10 : Gam := (123, cLowest) :: G9
theorem g10 [Sx.Dr] : GamOk Tryz.prog G10 := .cons ok123 g9
def cFloor : Con := { args := [aI, aI], ress := [I], owns := [], pre := fun (n, d, _) => [-1000000000000000 ≤ n ∧ n ≤ 1000000000000000, 0 < d ∧ d ≤ 1000000000000000], spec := fun (n, d, _) => (n / d, ()) }
theorem floor_key {n d : Int} (h : 0 < d) : (n < n.tdiv d * d → n.tdiv d - 1 = n / d) ∧ (¬ n < n.tdiv d * d → n.tdiv d = n / d) := by
 have h1 := Int.ediv_mul_add_emod n d
 have h2 := Int.emod_nonneg n (by omega : d ≠ 0)
 have h4 := Int.emod_lt_of_pos n h
 have h3 := Int.tdiv_eq_ediv (a := n) (b := d)
 rw [Int.sign_eq_one_of_pos h] at h3
 split at h3
 ·rw [Int.add_zero] at h3
  rw [h3]
  exact ⟨fun h => by omega, fun _ => rfl⟩
 ·rw [h3]
  have e : (n / d + 1) * d = n / d * d + d := by rw [Int.add_mul, Int.one_mul]
  rw [e]
  exact ⟨fun _ => by omega, fun h => by omega⟩
theorem vc153 : ∀ (n d : Int), wpF Tryz.prog G10 (na ()) Tryz.f153 cFloor (n, d, ()) = ((-1000000000000000) ≤ n ∧ n ≤ 1000000000000000 → 0 < d ∧ d ≤ 1000000000000000 → ((d = 0 → False) ∧ I64 (Int.tdiv n d)) ∧ (I64 (Int.tdiv n d * d)) ∧ (decide (n < Int.tdiv n d * d) = true → ((-9223372036854775808) ≤ Int.tdiv n d - 1 ∧ Int.tdiv n d - (1 : Int) ≤ 9223372036854775807) ∧ Int.tdiv n d - 1 = n / d) ∧ (decide (n < Int.tdiv n d * d) = false → Int.tdiv n d = n / d)) := by
 intros
 kernel_rfl
theorem wp153 (n d : Int) : wpF Tryz.prog G10 (na ()) Tryz.f153 cFloor (n, d, ()) := by
 refine (vc153 n d).mpr ?_
 delta I64
 intro h1 h2
 have b := tdiv_bd (a := n) (g := d) (B := 1000000000000000) ⟨by omega, h1.2⟩
 have b2 : (n.tdiv d * d).natAbs ≤ n.natAbs := by rw [Int.natAbs_mul, Int.natAbs_tdiv]; exact Nat.div_mul_le_self _ _
 have hk := floor_key (n := n) h2.1
 refine ⟨by omega, by omega, fun h => ⟨by omega, hk.1 (by simpa using h)⟩, fun h => hk.2 (by simpa using h)⟩
theorem ok153 [Sx.Dr] : Ok Tryz.prog 153 cFloor := ok_of_wp mixed g10 (by kernel_rfl) (by kernel_rfl) na fun xx => wp153 xx.1 xx.2.1
abbrev G11 : Gam := (153, cFloor) :: G10
theorem g11 [Sx.Dr] : GamOk Tryz.prog G11 := .cons ok153 g10
def roundS (n d : Int) : Int := (2 * n + d) / (2 * d)
def cRound : Con := { args := [aI, aI], ress := [I], owns := [], pre := fun (n, d, _) => [-400000000000000 ≤ n ∧ n ≤ 400000000000000, 0 < d ∧ d ≤ 100000000], spec := fun (n, d, _) => (roundS n d, ()) }
theorem vc99 : ∀ (n d : Int), wpF Tryz.prog G11 (na ()) Tryz.f99 cRound (n, d, ()) = ((-400000000000000) ≤ n ∧ n ≤ 400000000000000 → 0 < d ∧ d ≤ 100000000 → (((-9223372036854775808 : Int) ≤ 2 * n ∧ 2 * n ≤ 9223372036854775807) ∧ ((-9223372036854775808 : Int) ≤ 2 * n + d ∧ 2 * n + d ≤ 9223372036854775807) ∧ ((-9223372036854775808 : Int) ≤ 2 * d ∧ 2 * d ≤ 9223372036854775807) ∧ ((-1000000000000000 : Int) ≤ 2 * n + d ∧ 2 * n + d ≤ 1000000000000000) ∧ (0 : Int) < 2 * d ∧ 2 * d ≤ 1000000000000000) ∧ (2 * n + d) / (2 * d) = roundS n d) := by
 intros
 kernel_rfl
theorem wp99 (n d : Int) : wpF Tryz.prog G11 (na ()) Tryz.f99 cRound (n, d, ()) := by
 refine (vc99 n d).mpr ?_
 intro h1 h2
 exact ⟨⟨by omega, by omega, by omega, by omega, by omega⟩, rfl⟩
theorem ok99 [Sx.Dr] : Ok Tryz.prog 99 cRound := ok_of_wp mixed g11 (by kernel_rfl) (by kernel_rfl) na fun xx => wp99 xx.1 xx.2.1
abbrev G12 : Gam := (99, cRound) :: G11
theorem g12 [Sx.Dr] : GamOk Tryz.prog G12 := .cons ok99 g11
theorem vc95 : ∀ (n d : Int), wpF Tryz.prog G12 (na ()) Tryz.f95 cRound (n, d, ()) = ((-400000000000000) ≤ n ∧ n ≤ 400000000000000 → 0 < d ∧ d ≤ 100000000 → (((-9223372036854775808 : Int) ≤ 2 * n ∧ 2 * n ≤ 9223372036854775807) ∧ ((-9223372036854775808 : Int) ≤ 2 * n + d ∧ 2 * n + d ≤ 9223372036854775807) ∧ (-9223372036854775808 : Int) ≤ 2 * d ∧ 2 * d ≤ 9223372036854775807) ∧ ((2 * d = 0 → False) ∧ I64 (Int.tdiv (2 * n + d) (2 * d))) ∧ (I64 (Int.tdiv (2 * n + d) (2 * d) * (2 * d))) ∧ (decide (2 * n + d < Int.tdiv (2 * n + d) (2 * d) * (2 * d)) = true → ((-9223372036854775808) ≤ Int.tdiv (2 * n + d) (2 * d) - 1 ∧ Int.tdiv (2 * n + d) (2 * d) - (1 : Int) ≤ 9223372036854775807) ∧ Int.tdiv (2 * n + d) (2 * d) - 1 = roundS n d) ∧ (decide (2 * n + d < Int.tdiv (2 * n + d) (2 * d) * (2 * d)) = false → Int.tdiv (2 * n + d) (2 * d) = roundS n d)) := by
 intros
 kernel_rfl
theorem wp95 (n d : Int) : wpF Tryz.prog G12 (na ()) Tryz.f95 cRound (n, d, ()) := by
 refine (vc95 n d).mpr ?_
 delta I64
 intro h1 h2
 have b := tdiv_bd (a := 2 * n + d) (g := 2 * d) (B := 1000000000000000) ⟨by omega, by omega⟩
 have b2 : ((2 * n + d).tdiv (2 * d) * (2 * d)).natAbs ≤ (2 * n + d).natAbs := by rw [Int.natAbs_mul, Int.natAbs_tdiv]; exact Nat.div_mul_le_self _ _
 have hk := floor_key (n := 2 * n + d) (d := 2 * d) (by omega)
 refine ⟨by omega, by omega, by omega, fun h => ⟨by omega, hk.1 (by simpa using h)⟩, fun h => hk.2 (by simpa using h)⟩
theorem ok95 [Sx.Dr] : Ok Tryz.prog 95 cRound := ok_of_wp mixed g12 (by kernel_rfl) (by kernel_rfl) na fun xx => wp95 xx.1 xx.2.1
abbrev G13 : Gam := (95, cRound) :: G12
theorem g13 [Sx.Dr] : GamOk Tryz.prog G13 := .cons ok95 g12
def sA : ByteArray := ⟨⟨[65]⟩⟩
def sB : ByteArray := ⟨⟨[66]⟩⟩
def endS (s : ByteArray) : Int := bif (!(s.toList == sA.toList)) && (!(s.toList == sB.toList)) then 13 else 0
def cEnd : Con := { args := [aS], ress := [I], owns := [], pre := fun _ => [], spec := fun (s, _) => (endS s, ()) }
theorem vc93 : ∀ (s : ByteArray), wpF Tryz.prog G13 (na ()) Tryz.f93 cEnd (s, ()) = ((bif bif !ByteArray.toList s == ByteArray.toList (ByteArray.mk (Array.mk [(65 : UInt8)])) then !ByteArray.toList s == ByteArray.toList (ByteArray.mk (Array.mk [(66 : UInt8)])) else false then 13 else 0) = endS s) := by
 intros
 kernel_rfl
theorem wp93 (s : ByteArray) : wpF Tryz.prog G13 (na ()) Tryz.f93 cEnd (s, ()) := by
 refine (vc93 s).mpr ?_
 unfold endS
 show (bif bif !s.toList == sA.toList then !s.toList == sB.toList else false then (13 : Int) else 0) = _
 cases (s.toList == sA.toList) <;> rfl
theorem ok93 [Sx.Dr] : Ok Tryz.prog 93 cEnd := ok_of_wp mixed g13 (by kernel_rfl) (by kernel_rfl) na fun xx => wp93 xx.1
abbrev G14 : Gam := (93, cEnd) :: G13
theorem g14 [Sx.Dr] : GamOk Tryz.prog G14 := .cons ok93 g13
theorem vc44 : ∀ (s : ByteArray), wpF Tryz.prog G14 (na ()) Tryz.f44 cEnd (s, ()) = ((bif bif !ByteArray.toList s == ByteArray.toList (ByteArray.mk (Array.mk [(65 : UInt8)])) then !ByteArray.toList s == ByteArray.toList (ByteArray.mk (Array.mk [(66 : UInt8)])) else false then 13 else 0) = endS s) := by
 intros
 kernel_rfl
theorem wp44 (s : ByteArray) : wpF Tryz.prog G14 (na ()) Tryz.f44 cEnd (s, ()) := by
 refine (vc44 s).mpr ?_
 unfold endS
 show (bif bif !s.toList == sA.toList then !s.toList == sB.toList else false then (13 : Int) else 0) = _
 cases (s.toList == sA.toList) <;> rfl
theorem ok44 [Sx.Dr] : Ok Tryz.prog 44 cEnd := ok_of_wp mixed g14 (by kernel_rfl) (by kernel_rfl) na fun xx => wp44 xx.1
abbrev G15 : Gam := (44, cEnd) :: G14
theorem g15 [Sx.Dr] : GamOk Tryz.prog G15 := .cons ok44 g14
def cFactorC : Con := { args := [aI], ress := [I], owns := [], pre := fun _ => [], spec := fun (n, _) => (withinS n (-8) 8, ()) }
theorem vc132 : ∀ (n : Int), wpF Tryz.prog G15 (na ()) Tryz.f132 cFactorC (n, ()) = (withinS n (-8) 8 = withinS n (-8) 8) := by
 intros
 kernel_rfl
theorem wp132 (n : Int) : wpF Tryz.prog G15 (na ()) Tryz.f132 cFactorC (n, ()) := by
 refine (vc132 n).mpr ?_
 rfl
theorem ok132 [Sx.Dr] : Ok Tryz.prog 132 cFactorC := ok_of_wp mixed g15 (by kernel_rfl) (by kernel_rfl) na fun xx => wp132 xx.1
abbrev G16 : Gam := (132, cFactorC) :: G15
theorem g16 [Sx.Dr] : GamOk Tryz.prog G16 := .cons ok132 g15
theorem vc109 : ∀ (n : Int), wpF Tryz.prog G16 (na ()) Tryz.f109 cFactorC (n, ()) = (withinS n (-8) 8 = withinS n (-8) 8) := by
 intros
 kernel_rfl
theorem wp109 (n : Int) : wpF Tryz.prog G16 (na ()) Tryz.f109 cFactorC (n, ()) := by
 refine (vc109 n).mpr ?_
 rfl
theorem ok109 [Sx.Dr] : Ok Tryz.prog 109 cFactorC := ok_of_wp mixed g16 (by kernel_rfl) (by kernel_rfl) na fun xx => wp109 xx.1
abbrev G17 : Gam := (109, cFactorC) :: G16
theorem g17 [Sx.Dr] : GamOk Tryz.prog G17 := .cons ok109 g16
def thrS (n : Int) : Int := withinS n 1 1099511627776
def cThr : Con := { args := [aI], ress := [I], owns := [], pre := fun _ => [], spec := fun (n, _) => (thrS n, ()) }
theorem vc111 : ∀ (n : Int), wpF Tryz.prog G17 (na ()) Tryz.f111 cThr (n, ()) = (withinS n 1 1099511627776 = thrS n) := by
 intros
 kernel_rfl
theorem wp111 (n : Int) : wpF Tryz.prog G17 (na ()) Tryz.f111 cThr (n, ()) := by
 refine (vc111 n).mpr ?_
 rfl
theorem ok111 [Sx.Dr] : Ok Tryz.prog 111 cThr := ok_of_wp mixed g17 (by kernel_rfl) (by kernel_rfl) na fun xx => wp111 xx.1
abbrev G18 : Gam := (111, cThr) :: G17
theorem g18 [Sx.Dr] : GamOk Tryz.prog G18 := .cons ok111 g17
theorem vc46 : ∀ (n : Int), wpF Tryz.prog G18 (na ()) Tryz.f46 cThr (n, ()) = (withinS n 1 1099511627776 = thrS n) := by
 intros
 kernel_rfl
theorem wp46 (n : Int) : wpF Tryz.prog G18 (na ()) Tryz.f46 cThr (n, ()) := by
 refine (vc46 n).mpr ?_
 rfl
theorem ok46 [Sx.Dr] : Ok Tryz.prog 46 cThr := ok_of_wp mixed g18 (by kernel_rfl) (by kernel_rfl) na fun xx => wp46 xx.1
abbrev G19 : Gam := (46, cThr) :: G18
theorem g19 [Sx.Dr] : GamOk Tryz.prog G19 := .cons ok46 g18
def cWin : Con := { args := [aI], ress := [I], owns := [], pre := fun _ => [], spec := fun (n, _) => (withinS n 0 1000, ()) }
theorem vc25 : ∀ (n : Int), wpF Tryz.prog G19 (na ()) Tryz.f25 cWin (n, ()) = (withinS n 0 1000 = withinS n 0 1000) := by
 intros
 kernel_rfl
theorem wp25 (n : Int) : wpF Tryz.prog G19 (na ()) Tryz.f25 cWin (n, ()) := by
 refine (vc25 n).mpr ?_
 rfl
theorem ok25 [Sx.Dr] : Ok Tryz.prog 25 cWin := ok_of_wp mixed g19 (by kernel_rfl) (by kernel_rfl) na fun xx => wp25 xx.1
abbrev G20 : Gam := (25, cWin) :: G19
theorem g20 [Sx.Dr] : GamOk Tryz.prog G20 := .cons ok25 g19
def cNumber : Con := { args := [aB], ress := [I], owns := [], pre := fun _ => [], spec := fun (b, _) => (bif b then 1 else 0, ()) }
theorem vc148 : ∀ (b : Bool), wpF Tryz.prog G20 (na ()) Tryz.f148 cNumber (b, ()) = ((b = true → (1 : Int) = bif b then (1 : Int) else (0 : Int)) ∧ (b = false → (0 : Int) = bif b then (1 : Int) else (0 : Int))) := by
 intros
 kernel_rfl
theorem wp148 (b : Bool) : wpF Tryz.prog G20 (na ()) Tryz.f148 cNumber (b, ()) := by
 refine (vc148 b).mpr ?_
 cases b <;> simp
theorem ok148 [Sx.Dr] : Ok Tryz.prog 148 cNumber := ok_of_wp mixed g20 (by kernel_rfl) (by kernel_rfl) na fun xx => wp148 xx.1
abbrev G21 : Gam := (148, cNumber) :: G20
theorem g21 [Sx.Dr] : GamOk Tryz.prog G21 := .cons ok148 g20
def secS (x : Int × Int) : Int := firstS [withinS x.1 1 100000, withinS x.2 1 64]
def cSec : Con := { args := [aP], ress := [I], owns := [], pre := fun _ => [], spec := fun (x, _) => (secS x, ()) }
theorem vc130 : ∀ (x : Int × Int), wpF Tryz.prog G21 (na ()) Tryz.f130 cSec (x, ()) = (2 ≤ 1000000 ∧ firstS [withinS x.1 1 100000, withinS x.2 1 64] = secS x) := by
 intros
 kernel_rfl
theorem wp130 (x : Int × Int) : wpF Tryz.prog G21 (na ()) Tryz.f130 cSec (x, ()) := by
 refine (vc130 x).mpr ?_
 exact ⟨by simp, rfl⟩
theorem ok130 [Sx.Dr] : Ok Tryz.prog 130 cSec := ok_of_wp mixed g21 (by kernel_rfl) (by kernel_rfl) na fun xx => wp130 xx.1
abbrev G22 : Gam := (130, cSec) :: G21
theorem g22 [Sx.Dr] : GamOk Tryz.prog G22 := .cons ok130 g21
theorem getD_mem {α : Type} {l : List α} {k : Nat} {d : α} (h : k < l.length) : l.getD k d ∈ l := by
 simp [List.getD_eq_getElem?_getD, h]
theorem take_snoc {α : Type} {d : α} {l : List α} {k : Nat} (h : k < l.length) : l.take k ++ [l.getD k d] = l.take (k + 1) := by
 rw [List.take_succ_eq_append_getElem h, List.getD_eq_getElem?_getD, List.getElem?_eq_getElem h]; rfl
abbrev annMap (T U : TypeId) (s : Sch) (l : List s.T) (r : Bool × Sch) (g : Bool) (q : Tup [(g, s)] → List Prop) (f : Tup [(g, s)] → r.2.T) : Ann := { X := Nat, σ := fun k => ⟨3, [(1, .one (.fv 1)), (5, .one (.sl 2)), (8, .one (.sl 0)), (9, .one (.int .i64 l.length)), (10, .one (.int .i64 k))], [(0, .imm T s l), (1, .afn [(g, s)] r q f), (2, .own U r.2 ((l.take k).map fun x => f (x, ())))]⟩, inv := fun k => k ≤ l.length, mu := fun k => l.length - k }
def cMapII (T U : TypeId) : Con := { args := [.val false (.list T sI), .fn [I] I], ress := [(false, .list U sI)], owns := [true], pre := fun (l, (q, _), _) => [l.length ≤ 1000000, ∀ x ∈ l, conj (q (x, ()))], spec := fun (l, (_, f), _) => (l.map fun x => f (x, ()), ()) }
theorem vc131 : ∀ (l : List Int) (q : Int × Unit → List Prop) (f : Int × Unit → Int), wpF Tryz.prog G22 (ann0 (annMap (3 : TypeId) (32 : TypeId) sI l I false q f)) Tryz.f131 (cMapII (3 : TypeId) (32 : TypeId)) (l, (q, f), ()) = (List.length l ≤ 1000000 → (∀ (x : Int), x ∈ l → conj (q (x, PUnit.unit))) → ∃ (x : Nat), ((↑(List.length l) : Int) = (↑(List.length l) : Int) ∧ 0 = (↑x : Int) ∧ l = l ∧ (fun (x : Int × PUnit) => q x) = q ∧ (fun (x : Int × PUnit) => f x) = f ∧ List.length (List.map (fun (x : Int) => f (x, PUnit.unit)) (List.take x l)) = 0) ∧ x ≤ List.length l ∧ ∀ (x : Nat), x ≤ List.length l → (decide ((↑x : Int) < (↑(List.length l) : Int)) = true → ((0 ≤ (↑x : Int) ∧ (↑x : Int) < (↑(List.length l) : Int)) ∧ 0 ≤ (↑x : Int) ∧ (↑x : Int) < (↑(List.length l) : Int)) ∧ (conj (q (List.getD l x 0, PUnit.unit)) ∧ (List.length (List.map (fun (x : Int) => f (x, PUnit.unit)) (List.take x l)) + 1) * 8 ≤ 140737488355328) ∧ ((-9223372036854775808) ≤ (↑x : Int) + 1 ∧ (↑x : Int) + (1 : Int) ≤ 9223372036854775807) ∧ ∃ (y : Nat), ((↑(List.length l) : Int) = (↑(List.length l) : Int) ∧ (↑x : Int) + 1 = (↑y : Int) ∧ l = l ∧ (fun (x : Int × PUnit) => q x) = q ∧ (fun (x : Int × PUnit) => f x) = f ∧ List.map (fun (x : Int) => f (x, PUnit.unit)) (List.take x l) ++ [f (List.getD l x 0, PUnit.unit)] = List.map (fun (x : Int) => f (x, PUnit.unit)) (List.take y l)) ∧ y ≤ List.length l ∧ List.length l - y < List.length l - x) ∧ (decide ((↑x : Int) < (↑(List.length l) : Int)) = false → List.map (fun (x : Int) => f (x, PUnit.unit)) (List.take x l) = List.map (fun (x : Int) => f (x, PUnit.unit)) l)) := by
 intros
 kernel_rfl
theorem wp131 (l : List Int) (q : Int × Unit → List Prop) (f : Int × Unit → Int) : wpF Tryz.prog G22 (ann0 (annMap 3 32 sI l I false q f)) Tryz.f131 (cMapII 3 32) (l, (q, f), ()) := by
 refine (vc131 l q f).mpr ?_
 intro hb hq
 refine ⟨(0 : Nat), ⟨rfl, rfl, rfl, rfl, rfl, by simp⟩, Nat.zero_le _, fun (k : Nat) hk => ⟨fun h => ?_, fun h => ?_⟩⟩
 ·have hlt : k < l.length := by simpa using h
  refine ⟨by omega, ⟨hq _ (getD_mem hlt), by simp only [List.length_map, List.length_take]; omega⟩, by omega, (k + 1 : Nat), ⟨rfl, by simp, rfl, rfl, rfl, ?_⟩, by omega, by omega⟩
  rw [← take_snoc (d := 0) hlt, List.map_append]; rfl
 ·have hlt : ¬ k < l.length := by simpa using h
  rw [List.take_of_length_le (by omega)]
theorem ok131 [Sx.Dr] : Ok Tryz.prog 131 (cMapII 3 32) := ok_of_wp mixed g22 (by kernel_rfl) (by kernel_rfl) (fun xx => ann0 (annMap 3 32 sI xx.1 I false xx.2.1.1 xx.2.1.2)) fun xx => wp131 xx.1 xx.2.1.1 xx.2.1.2
abbrev G23 : Gam := (131, (cMapII 3 32)) :: G22
theorem g23 [Sx.Dr] : GamOk Tryz.prog G23 := .cons ok131 g22
theorem vc125 : ∀ (l : List Int) (q : Int × Unit → List Prop) (f : Int × Unit → Int), wpF Tryz.prog G23 (ann0 (annMap (3 : TypeId) (3 : TypeId) sI l I false q f)) Tryz.f125 (cMapII (3 : TypeId) (3 : TypeId)) (l, (q, f), ()) = (List.length l ≤ 1000000 → (∀ (x : Int), x ∈ l → conj (q (x, PUnit.unit))) → ∃ (x : Nat), ((↑(List.length l) : Int) = (↑(List.length l) : Int) ∧ 0 = (↑x : Int) ∧ l = l ∧ (fun (x : Int × PUnit) => q x) = q ∧ (fun (x : Int × PUnit) => f x) = f ∧ List.length (List.map (fun (x : Int) => f (x, PUnit.unit)) (List.take x l)) = 0) ∧ x ≤ List.length l ∧ ∀ (x : Nat), x ≤ List.length l → (decide ((↑x : Int) < (↑(List.length l) : Int)) = true → ((0 ≤ (↑x : Int) ∧ (↑x : Int) < (↑(List.length l) : Int)) ∧ 0 ≤ (↑x : Int) ∧ (↑x : Int) < (↑(List.length l) : Int)) ∧ (conj (q (List.getD l x 0, PUnit.unit)) ∧ (List.length (List.map (fun (x : Int) => f (x, PUnit.unit)) (List.take x l)) + 1) * 8 ≤ 140737488355328) ∧ ((-9223372036854775808) ≤ (↑x : Int) + 1 ∧ (↑x : Int) + (1 : Int) ≤ 9223372036854775807) ∧ ∃ (y : Nat), ((↑(List.length l) : Int) = (↑(List.length l) : Int) ∧ (↑x : Int) + 1 = (↑y : Int) ∧ l = l ∧ (fun (x : Int × PUnit) => q x) = q ∧ (fun (x : Int × PUnit) => f x) = f ∧ List.map (fun (x : Int) => f (x, PUnit.unit)) (List.take x l) ++ [f (List.getD l x 0, PUnit.unit)] = List.map (fun (x : Int) => f (x, PUnit.unit)) (List.take y l)) ∧ y ≤ List.length l ∧ List.length l - y < List.length l - x) ∧ (decide ((↑x : Int) < (↑(List.length l) : Int)) = false → List.map (fun (x : Int) => f (x, PUnit.unit)) (List.take x l) = List.map (fun (x : Int) => f (x, PUnit.unit)) l)) := by
 intros
 kernel_rfl
theorem wp125 (l : List Int) (q : Int × Unit → List Prop) (f : Int × Unit → Int) : wpF Tryz.prog G23 (ann0 (annMap 3 3 sI l I false q f)) Tryz.f125 (cMapII 3 3) (l, (q, f), ()) := by
 refine (vc125 l q f).mpr ?_
 intro hb hq
 refine ⟨(0 : Nat), ⟨rfl, rfl, rfl, rfl, rfl, by simp⟩, Nat.zero_le _, fun (k : Nat) hk => ⟨fun h => ?_, fun h => ?_⟩⟩
 ·have hlt : k < l.length := by simpa using h
  refine ⟨by omega, ⟨hq _ (getD_mem hlt), by simp only [List.length_map, List.length_take]; omega⟩, by omega, (k + 1 : Nat), ⟨rfl, by simp, rfl, rfl, rfl, ?_⟩, by omega, by omega⟩
  rw [← take_snoc (d := 0) hlt, List.map_append]; rfl
 ·have hlt : ¬ k < l.length := by simpa using h
  rw [List.take_of_length_le (by omega)]
theorem ok125 [Sx.Dr] : Ok Tryz.prog 125 (cMapII 3 3) := ok_of_wp mixed g23 (by kernel_rfl) (by kernel_rfl) (fun xx => ann0 (annMap 3 3 sI xx.1 I false xx.2.1.1 xx.2.1.2)) fun xx => wp125 xx.1 xx.2.1.1 xx.2.1.2
abbrev G24 : Gam := (125, (cMapII 3 3)) :: G23
theorem g24 [Sx.Dr] : GamOk Tryz.prog G24 := .cons ok125 g23
def cMapSI : Con := { args := [.val false (.list 166 sPt), .fn [Pr] I], ress := [(false, .list 32 sI)], owns := [true], pre := fun (l, (q, _), _) => [l.length ≤ 1000000, ∀ x ∈ l, conj (q (x, ()))], spec := fun (l, (_, f), _) => (l.map fun x => f (x, ()), ()) }
theorem vc129 : ∀ (l : List (Int × Int)) (q : (Int × Int) × Unit → List Prop) (f : (Int × Int) × Unit → Int), wpF Tryz.prog G24 (ann0 (annMap (166 : TypeId) (32 : TypeId) sPt l I true q f)) Tryz.f129 cMapSI (l, (q, f), ()) = (List.length l ≤ 1000000 → (∀ (x : Int × Int), x ∈ l → conj (q (x, PUnit.unit))) → ∃ (x : Nat), ((↑(List.length l) : Int) = (↑(List.length l) : Int) ∧ 0 = (↑x : Int) ∧ l = l ∧ (fun (x : (Int × Int) × PUnit) => q x) = q ∧ (fun (x : (Int × Int) × PUnit) => f x) = f ∧ List.length (List.map (fun (x : Int × Int) => f (x, PUnit.unit)) (List.take x l)) = 0) ∧ x ≤ List.length l ∧ ∀ (x : Nat), x ≤ List.length l → (decide ((↑x : Int) < (↑(List.length l) : Int)) = true → ((0 ≤ (↑x : Int) ∧ (↑x : Int) < (↑(List.length l) : Int)) ∧ 0 ≤ (↑x : Int) ∧ (↑x : Int) < (↑(List.length l) : Int)) ∧ (conj (q (((List.getD l x (0, 0)).1, (List.getD l x (0, 0)).2), PUnit.unit)) ∧ (List.length (List.map (fun (x : Int × Int) => f (x, PUnit.unit)) (List.take x l)) + 1) * 8 ≤ 140737488355328) ∧ ((-9223372036854775808) ≤ (↑x : Int) + 1 ∧ (↑x : Int) + (1 : Int) ≤ 9223372036854775807) ∧ ∃ (y : Nat), ((↑(List.length l) : Int) = (↑(List.length l) : Int) ∧ (↑x : Int) + 1 = (↑y : Int) ∧ l = l ∧ (fun (x : (Int × Int) × PUnit) => q x) = q ∧ (fun (x : (Int × Int) × PUnit) => f x) = f ∧ List.map (fun (x : Int × Int) => f (x, PUnit.unit)) (List.take x l) ++ [f (((List.getD l x (0, 0)).1, (List.getD l x (0, 0)).2), PUnit.unit)] = List.map (fun (x : Int × Int) => f (x, PUnit.unit)) (List.take y l)) ∧ y ≤ List.length l ∧ List.length l - y < List.length l - x) ∧ (decide ((↑x : Int) < (↑(List.length l) : Int)) = false → List.map (fun (x : Int × Int) => f (x, PUnit.unit)) (List.take x l) = List.map (fun (x : Int × Int) => f (x, PUnit.unit)) l)) := by
 intros
 kernel_rfl
theorem wp129 (l : List (Int × Int)) (q : (Int × Int) × Unit → List Prop) (f : (Int × Int) × Unit → Int) : wpF Tryz.prog G24 (ann0 (annMap 166 32 sPt l I true q f)) Tryz.f129 cMapSI (l, (q, f), ()) := by
 refine (vc129 l q f).mpr ?_
 intro hb hq
 refine ⟨(0 : Nat), ⟨rfl, rfl, rfl, rfl, rfl, by simp⟩, Nat.zero_le _, fun (k : Nat) hk => ⟨fun h => ?_, fun h => ?_⟩⟩
 ·have hlt : k < l.length := by simpa using h
  refine ⟨by omega, ⟨hq (l.getD k (0, 0)) (getD_mem hlt), by simp only [List.length_map, List.length_take]; omega⟩, by omega, (k + 1 : Nat), ⟨rfl, by simp, rfl, rfl, rfl, ?_⟩, by omega, by omega⟩
  rw [← take_snoc (d := (0, 0)) hlt, List.map_append]; rfl
 ·have hlt : ¬ k < l.length := by simpa using h
  rw [List.take_of_length_le (by omega)]
theorem ok129 [Sx.Dr] : Ok Tryz.prog 129 cMapSI := ok_of_wp mixed g24 (by kernel_rfl) (by kernel_rfl) (fun xx => ann0 (annMap 166 32 sPt xx.1 I true xx.2.1.1 xx.2.1.2)) fun xx => wp129 xx.1 xx.2.1.1 xx.2.1.2
abbrev G25 : Gam := (129, cMapSI) :: G24
theorem g25 [Sx.Dr] : GamOk Tryz.prog G25 := .cons ok129 g24
abbrev Cab : Type := List (Int × Int) × List Int × Int × Int
abbrev sCab (T : TypeId) : Sch := .prod (.list T sPt) (.prod (.list 3 sI) (.prod sI sI))
abbrev aC : AK := .val true (sCab 166)
abbrev aCR : AK := .val true (sCab 102)
def facS (n : Int) : Int := withinS n (-8) 8
def cabS (c : Cab) : Int :=
 if c.1.length = 0 then 12 else if 6 < c.1.length then 5 else
 firstS [firstS (c.1.map secS), (if (c.2.1.length : Int) ≠ c.1.length - 1 then 2 else 0), firstS (c.2.1.map facS), firstS [facS c.2.2.1, facS c.2.2.2]]
def cCab : Con := { args := [aC], ress := [I], owns := [], pre := fun (c, _) => [c.1.length ≤ 1000000, c.2.1.length ≤ 1000000], spec := fun (c, _) => (cabS c, ()) }
theorem bne_zero {n : Int} : (n != 0) = true ↔ n ≠ 0 := by simp
theorem bne_zero' {n : Int} : (n != 0) = false ↔ n = 0 := by simp
def vc74_0 (c : Cab) := (firstS [bif (↑(List.length c.1) : Int) == (0 : Int) then (12 : Int) else (0 : Int), bif decide ((6 : Int) < (↑(List.length c.1) : Int)) then (5 : Int) else (0 : Int)] != (0 : Int))
theorem vc74 : ∀ (c : Cab), wpF Tryz.prog G25 (na ()) Tryz.f74 cCab (c, ()) = (List.length c.1 ≤ 1000000 → List.length c.2.1 ≤ 1000000 → 2 ≤ 1000000 ∧ ((vc74_0 c) = true → firstS [bif (↑(List.length c.1) : Int) == 0 then 12 else 0, bif decide (6 < (↑(List.length c.1) : Int)) then 5 else 0] = cabS c) ∧ ((vc74_0 c) = false → (List.length c.1 ≤ 1000000 ∧ (∀ (x : Int × Int), x ∈ c.1 → True) ∧ List.length (List.map (fun (x : Int × Int) => secS x) c.1) ≤ 1000000 ∧ ((-9223372036854775808) ≤ (↑(List.length c.1) : Int) - 1 ∧ (↑(List.length c.1) : Int) - (1 : Int) ≤ 9223372036854775807) ∧ List.length c.2.1 ≤ 1000000 ∧ (∀ (x : Int), x ∈ c.2.1 → True) ∧ List.length (List.map (fun (x : Int) => withinS x (-8) 8) c.2.1) ≤ 1000000 ∧ 2 ≤ 1000000 ∧ (∀ (x : Int), x ∈ [c.2.2.1, c.2.2.2] → True) ∧ 2 ≤ 1000000 ∧ 4 ≤ 1000000) ∧ firstS [firstS (List.map (fun (x : Int × Int) => secS x) c.1), bif (↑(List.length c.2.1) : Int) != (↑(List.length c.1) : Int) - 1 then 2 else 0, firstS (List.map (fun (x : Int) => withinS x (-8) 8) c.2.1), firstS [withinS c.2.2.1 (-8) 8, withinS c.2.2.2 (-8) 8]] = cabS c)) := by
 intros
 kernel_rfl
theorem wp74 (c : Cab) : wpF Tryz.prog G25 (na ()) Tryz.f74 cCab (c, ()) := by
 refine (vc74 c).mpr ?_
 delta vc74_0
 intro h1 h2
 unfold cabS
 have e1 : firstS [bif (c.1.length : Int) == 0 then 12 else 0, bif decide ((6 : Int) < c.1.length) then 5 else 0] = if c.1.length = 0 then 12 else if 6 < c.1.length then 5 else 0 := by
  simp only [firstS, Bool.cond_eq_ite, beq_iff_eq, decide_eq_true_eq]
  repeat' split
  all_goals omega
 rw [e1]
 refine ⟨by omega, fun h => ?_, fun h => ⟨⟨h1, fun _ _ => trivial, by simpa using h1, by omega, h2, fun _ _ => trivial, by simpa using h2, by omega, fun _ _ => trivial, by omega, by omega⟩, ?_⟩⟩
 ·have h := bne_zero.1 h
  by_cases h0 : c.1.length = 0
  ·rw [if_pos h0, if_pos h0]
  ·rw [if_neg h0] at h ⊢
   rw [if_neg h0]
   by_cases h6 : 6 < c.1.length
   ·rw [if_pos h6, if_pos h6]
   ·rw [if_neg h6] at h; exact absurd rfl h
 ·have h := bne_zero'.1 h
  by_cases h0 : c.1.length = 0
  ·rw [if_pos h0] at h; cases h
  ·rw [if_neg h0] at h ⊢
   by_cases h6 : 6 < c.1.length
   ·rw [if_pos h6] at h; cases h
   ·rw [if_neg h6]
    have e2 : (bif ((c.2.1.length : Int) != c.1.length - 1) then (2 : Int) else 0) = if (c.2.1.length : Int) ≠ c.1.length - 1 then 2 else 0 := by
     by_cases h3 : (c.2.1.length : Int) = c.1.length - 1
     ·simp [h3]
     ·have : ((c.2.1.length : Int) != c.1.length - 1) = true := by simpa using h3
      rw [this, if_pos h3]; rfl
    rw [e2]
    rfl
theorem ok74 [Sx.Dr] : Ok Tryz.prog 74 cCab := ok_of_wp mixed g25 (by kernel_rfl) (by kernel_rfl) na fun xx => wp74 xx.1
abbrev G26 : Gam := (74, cCab) :: G25
theorem g26 [Sx.Dr] : GamOk Tryz.prog G26 := .cons ok74 g25
def cCabR : Con := { args := [aCR], ress := [I], owns := [], pre := fun (c, _) => [c.1.length ≤ 1000000, c.2.1.length ≤ 1000000], spec := fun (c, _) => (cabS c, ()) }
theorem firstS_mapd {α : Type} {f : α → Int} {d : α} {l : List α} {k : Nat} (h : k < l.length) : firstS ((l.drop k).map f) = if f (l.getD k d) = 0 then firstS ((l.drop (k + 1)).map f) else f (l.getD k d) := by
 rw [List.drop_eq_getElem_cons h, List.map_cons, List.getD_eq_getElem?_getD, List.getElem?_eq_getElem h]
 rfl
theorem firstS_cons {x : Int} {l : List Int} : firstS (x :: l) = if x = 0 then firstS l else x := rfl
abbrev annCab1 (c : Cab) : Ann := { X := Nat, σ := fun k => ⟨3, [(1, .one (.ptr 2 0)), (3, .one (.int .i64 k))], [(0, .imm 102 sPt c.1), (1, .imm 3 sI c.2.1), (2, .box 26 [.sl 0, .sl 1, .int .i64 c.2.2.1, .int .i64 c.2.2.2])]⟩, inv := fun k => k ≤ c.1.length ∧ c.1.length ≠ 0 ∧ c.1.length ≤ 6 ∧ firstS (c.1.map secS) = firstS ((c.1.drop k).map secS), mu := fun k => c.1.length - k }
abbrev annCab2 (c : Cab) : Ann := { X := Nat, σ := fun k => ⟨3, [(1, .one (.ptr 2 0)), (5, .one (.int .i64 k))], [(0, .imm 102 sPt c.1), (1, .imm 3 sI c.2.1), (2, .box 26 [.sl 0, .sl 1, .int .i64 c.2.2.1, .int .i64 c.2.2.2])]⟩, inv := fun k => k ≤ c.2.1.length ∧ c.1.length ≠ 0 ∧ c.1.length ≤ 6 ∧ firstS (c.1.map secS) = 0 ∧ (c.2.1.length : Int) = c.1.length - 1 ∧ firstS (c.2.1.map facS) = firstS ((c.2.1.drop k).map facS), mu := fun k => c.2.1.length - k }
theorem vc37 : ∀ (c : Cab), wpF Tryz.prog G26 (fun (k : Nat) => if k = 0 then some (annCab1 c) else if k = 2 then some (annCab2 c) else none) Tryz.f37 cCabR (c, ()) = (List.length c.1 ≤ 1000000 → List.length c.2.1 ≤ 1000000 → (((↑(List.length c.1) : Int) == 0) = true → 12 = cabS c) ∧ (((↑(List.length c.1) : Int) == 0) = false → (decide (6 < (↑(List.length c.1) : Int)) = true → 5 = cabS c) ∧ (decide (6 < (↑(List.length c.1) : Int)) = false → ∃ (x : Nat), (0 = (↑x : Int) ∧ c.1 = c.1 ∧ c.2.1 = c.2.1 ∧ c.2.2.1 = c.2.2.1 ∧ c.2.2.2 = c.2.2.2) ∧ (x ≤ List.length c.1 ∧ (List.length c.1 = 0 → False) ∧ List.length c.1 ≤ 6 ∧ firstS (List.map secS c.1) = firstS (List.map secS (List.drop x c.1))) ∧ ∀ (x : Nat), x ≤ List.length c.1 ∧ (List.length c.1 = 0 → False) ∧ List.length c.1 ≤ 6 ∧ firstS (List.map secS c.1) = firstS (List.map secS (List.drop x c.1)) → (decide ((↑x : Int) < (↑(List.length c.1) : Int)) = true → ((0 ≤ (↑x : Int) ∧ (↑x : Int) < (↑(List.length c.1) : Int)) ∧ (0 ≤ (↑x : Int) ∧ (↑x : Int) < (↑(List.length c.1) : Int)) ∧ (0 ≤ (↑x : Int) ∧ (↑x : Int) < (↑(List.length c.1) : Int)) ∧ (0 ≤ (↑x : Int) ∧ (↑x : Int) < (↑(List.length c.1) : Int)) ∧ 2 ≤ 1000000) ∧ ((firstS [withinS (List.getD c.1 x (0, 0)).1 1 100000, withinS (List.getD c.1 x (0, 0)).2 1 64] != 0) = true → firstS [withinS (List.getD c.1 x (0, 0)).1 1 100000, withinS (List.getD c.1 x (0, 0)).2 1 64] = cabS c) ∧ ((firstS [withinS (List.getD c.1 x (0, 0)).1 1 100000, withinS (List.getD c.1 x (0, 0)).2 1 64] != 0) = false → ((-9223372036854775808) ≤ (↑x : Int) + 1 ∧ (↑x : Int) + (1 : Int) ≤ 9223372036854775807) ∧ ∃ (y : Nat), ((↑x : Int) + 1 = (↑y : Int) ∧ c.1 = c.1 ∧ c.2.1 = c.2.1 ∧ c.2.2.1 = c.2.2.1 ∧ c.2.2.2 = c.2.2.2) ∧ (y ≤ List.length c.1 ∧ (List.length c.1 = 0 → False) ∧ List.length c.1 ≤ 6 ∧ firstS (List.map secS c.1) = firstS (List.map secS (List.drop y c.1))) ∧ List.length c.1 - y < List.length c.1 - x)) ∧ (decide ((↑x : Int) < (↑(List.length c.1) : Int)) = false → ((-9223372036854775808) ≤ (↑(List.length c.1) : Int) - 1 ∧ (↑(List.length c.1) : Int) - (1 : Int) ≤ 9223372036854775807) ∧ (((↑(List.length c.2.1) : Int) != (↑(List.length c.1) : Int) - 1) = true → 2 = cabS c) ∧ (((↑(List.length c.2.1) : Int) != (↑(List.length c.1) : Int) - 1) = false → ∃ (x : Nat), (0 = (↑x : Int) ∧ c.1 = c.1 ∧ c.2.1 = c.2.1 ∧ c.2.2.1 = c.2.2.1 ∧ c.2.2.2 = c.2.2.2) ∧ (x ≤ List.length c.2.1 ∧ (List.length c.1 = 0 → False) ∧ List.length c.1 ≤ 6 ∧ firstS (List.map secS c.1) = 0 ∧ (↑(List.length c.2.1) : Int) = (↑(List.length c.1) : Int) - 1 ∧ firstS (List.map facS c.2.1) = firstS (List.map facS (List.drop x c.2.1))) ∧ ∀ (x : Nat), x ≤ List.length c.2.1 ∧ (List.length c.1 = 0 → False) ∧ List.length c.1 ≤ 6 ∧ firstS (List.map secS c.1) = 0 ∧ (↑(List.length c.2.1) : Int) = (↑(List.length c.1) : Int) - 1 ∧ firstS (List.map facS c.2.1) = firstS (List.map facS (List.drop x c.2.1)) → (decide ((↑x : Int) < (↑(List.length c.2.1) : Int)) = true → ((0 ≤ (↑x : Int) ∧ (↑x : Int) < (↑(List.length c.2.1) : Int)) ∧ 0 ≤ (↑x : Int) ∧ (↑x : Int) < (↑(List.length c.2.1) : Int)) ∧ ((withinS (List.getD c.2.1 x 0) (-8) (8 : Int) != 0) = true → withinS (List.getD c.2.1 x 0) (-8) 8 = cabS c) ∧ ((withinS (List.getD c.2.1 x 0) (-8) (8 : Int) != 0) = false → ((-9223372036854775808) ≤ (↑x : Int) + 1 ∧ (↑x : Int) + (1 : Int) ≤ 9223372036854775807) ∧ ∃ (y : Nat), ((↑x : Int) + 1 = (↑y : Int) ∧ c.1 = c.1 ∧ c.2.1 = c.2.1 ∧ c.2.2.1 = c.2.2.1 ∧ c.2.2.2 = c.2.2.2) ∧ (y ≤ List.length c.2.1 ∧ (List.length c.1 = 0 → False) ∧ List.length c.1 ≤ 6 ∧ firstS (List.map secS c.1) = 0 ∧ (↑(List.length c.2.1) : Int) = (↑(List.length c.1) : Int) - 1 ∧ firstS (List.map facS c.2.1) = firstS (List.map facS (List.drop y c.2.1))) ∧ List.length c.2.1 - y < List.length c.2.1 - x)) ∧ (decide ((↑x : Int) < (↑(List.length c.2.1) : Int)) = false → 2 ≤ 1000000 ∧ firstS [withinS c.2.2.1 (-8) 8, withinS c.2.2.2 (-8) 8] = cabS c)))))) := by
 intros
 kernel_rfl
theorem wp37 (c : Cab) : wpF Tryz.prog G26 (fun k => if k = 0 then some (annCab1 c) else if k = 2 then some (annCab2 c) else none) Tryz.f37 cCabR (c, ()) := by
 refine (vc37 c).mpr ?_
 intro h1 h2
 refine ⟨fun h => ?_, fun h => ⟨fun h' => ?_, fun h' => ?_⟩⟩
 ·have h : c.1.length = 0 := by have := eq_of_beq h; omega
  unfold cabS; rw [if_pos h]
 ·have h : ¬ c.1.length = 0 := by have := ne_of_beq_false h; omega
  have h' : 6 < c.1.length := by have := of_decide_eq_true h'; omega
  unfold cabS; rw [if_neg h, if_pos h']
 have h : ¬ c.1.length = 0 := by have := ne_of_beq_false h; omega
 have h' : ¬ 6 < c.1.length := by have := of_decide_eq_false h'; omega
 have hc : cabS c = firstS [firstS (c.1.map secS), (if (c.2.1.length : Int) ≠ c.1.length - 1 then 2 else 0), firstS (c.2.1.map facS), firstS [facS c.2.2.1, facS c.2.2.2]] := by unfold cabS; rw [if_neg h, if_neg h']
 refine ⟨(0 : Nat), ⟨rfl, rfl, rfl, rfl, rfl⟩, ⟨Nat.zero_le _, h, by omega, rfl⟩, ?_⟩
 rintro k ⟨k1, k2, k3, k4⟩
 refine ⟨fun hk => ?_, fun hk => ?_⟩
 ·have hk : k < c.1.length := by have := of_decide_eq_true hk; omega
  have hd := firstS_mapd (f := secS) (d := (0, 0)) hk
  refine ⟨⟨by omega, by omega, by omega, by omega, by omega⟩, fun hb => ?_, fun hb => ⟨by omega, (k + 1 : Nat), ⟨by omega, rfl, rfl, rfl, rfl⟩, ⟨by omega, k2, k3, ?_⟩, by omega⟩⟩
  ·have hb : ¬ secS (c.1.getD k (0, 0)) = 0 := bne_zero.1 hb
   rw [if_neg hb] at hd
   show secS (c.1.getD k (0, 0)) = cabS c
   rw [hc, k4, hd, firstS_cons, if_neg hb]
  ·have hb : secS (c.1.getD k (0, 0)) = 0 := bne_zero'.1 hb
   rw [if_pos hb] at hd
   rw [k4, hd]
 have hk : k = c.1.length := by have := of_decide_eq_false hk; omega
 have hz : firstS (c.1.map secS) = 0 := by rw [k4, hk, List.drop_length]; rfl
 rw [firstS_cons, if_pos hz] at hc
 refine ⟨by omega, fun hj => ?_, fun hj => ?_⟩
 ·have hj : (c.2.1.length : Int) ≠ c.1.length - 1 := by simpa using hj
  rw [if_pos hj] at hc
  rw [hc]; rfl
 have hj : (c.2.1.length : Int) = c.1.length - 1 := by simpa using hj
 rw [if_neg (by simpa using hj), firstS_cons, if_pos rfl] at hc
 refine ⟨(0 : Nat), ⟨rfl, rfl, rfl, rfl, rfl⟩, ⟨Nat.zero_le _, h, by omega, hz, hj, rfl⟩, ?_⟩
 rintro m ⟨m1, m2, m3, m4, m5, m6⟩
 refine ⟨fun hm => ?_, fun hm => ?_⟩
 ·have hm : m < c.2.1.length := by have := of_decide_eq_true hm; omega
  have hd := firstS_mapd (f := facS) (d := (0 : Int)) hm
  refine ⟨⟨by omega, by omega⟩, fun hb => ?_, fun hb => ⟨by omega, (m + 1 : Nat), ⟨by omega, rfl, rfl, rfl, rfl⟩, ⟨by omega, m2, m3, m4, m5, ?_⟩, by omega⟩⟩
  ·have hb : ¬ facS (c.2.1.getD m 0) = 0 := bne_zero.1 hb
   rw [if_neg hb] at hd
   show facS (c.2.1.getD m 0) = cabS c
   rw [hc, m6, hd, firstS_cons, if_neg hb]
  ·have hb : facS (c.2.1.getD m 0) = 0 := bne_zero'.1 hb
   rw [if_pos hb] at hd
   rw [m6, hd]
 have hm : m = c.2.1.length := by have := of_decide_eq_false hm; omega
 have hz2 : firstS (c.2.1.map facS) = 0 := by rw [m6, hm, List.drop_length]; rfl
 rw [firstS_cons, if_pos hz2] at hc
 have h1s : ∀ x : Int, firstS [x] = x := fun x => by unfold firstS; split <;> simp_all [firstS]
 rw [h1s] at hc
 rw [hc]
 exact ⟨by omega, rfl⟩
theorem ok37 [Sx.Dr] : Ok Tryz.prog 37 cCabR := ok_of_wp mixed g26 (by kernel_rfl) (by kernel_rfl) (fun xx => fun k => if k = 0 then some (annCab1 xx.1) else if k = 2 then some (annCab2 xx.1) else none) fun xx => wp37 xx.1
abbrev G27 : Gam := (37, cCabR) :: G26
theorem g27 [Sx.Dr] : GamOk Tryz.prog G27 := .cons ok37 g26
theorem firstS_zero : ∀ {l : List Int}, firstS l = 0 → ∀ x ∈ l, x = 0
 | [], _, x, hx => by simp at hx
 | y :: l, h, x, hx => by
  rw [firstS_cons] at h
  split at h
  ·rename_i e
   rcases List.mem_cons.1 hx with rfl | hx
   ·exact e
   ·exact firstS_zero h x hx
  ·rename_i e; exact absurd h e
theorem within_zero {n lo hi : Int} : withinS n lo hi = 0 ↔ lo ≤ n ∧ n ≤ hi := by
 unfold withinS
 by_cases h1 : n < lo
 ·simp [h1] <;> omega
 ·by_cases h2 : hi < n
  ·simp [h2] <;> omega
  ·simp [h1, h2] <;> omega
def cabV (c : Cab) : Prop := 0 < c.1.length ∧ c.1.length ≤ 6 ∧ (∀ x ∈ c.1, 1 ≤ x.1 ∧ x.1 ≤ 100000 ∧ 1 ≤ x.2 ∧ x.2 ≤ 64) ∧ c.2.1.length + 1 = c.1.length ∧ (∀ n ∈ c.2.1, -8 ≤ n ∧ n ≤ 8) ∧ (-8 ≤ c.2.2.1 ∧ c.2.2.1 ≤ 8) ∧ -8 ≤ c.2.2.2 ∧ c.2.2.2 ≤ 8
theorem cabS_V {c : Cab} (h : cabS c = 0) : cabV c := by
 unfold cabS at h
 split at h
 ·cases h
 rename_i h0
 split at h
 ·cases h
 rename_i h6
 have hz := firstS_zero h
 simp only [List.mem_cons, List.not_mem_nil, or_false, forall_eq_or_imp, forall_eq] at hz
 obtain ⟨a1, a2, a3, a4⟩ := hz
 have a1' := firstS_zero a1
 have a3' := firstS_zero a3
 have a4' := firstS_zero a4
 simp only [List.mem_cons, List.not_mem_nil, or_false, forall_eq_or_imp, forall_eq] at a4'
 have hj : (c.2.1.length : Int) = c.1.length - 1 := by
  by_cases e : (c.2.1.length : Int) = c.1.length - 1
  ·exact e
  ·rw [if_pos e] at a2; cases a2
 refine ⟨by omega, by omega, fun x hx => ?_, by omega, fun n hn => ?_, within_zero.1 a4'.1, within_zero.1 a4'.2⟩
 ·have := firstS_zero (a1' (secS x) (List.mem_map.2 ⟨x, hx, rfl⟩))
  simp only [List.mem_cons, List.not_mem_nil, or_false, forall_eq_or_imp, forall_eq] at this
  have b1 := within_zero.1 this.1
  have b2 := within_zero.1 this.2
  exact ⟨b1.1, b1.2, b2.1, b2.2⟩
 ·exact within_zero.1 (a3' (facS n) (List.mem_map.2 ⟨n, hn, rfl⟩))
def sumS : List (Int × Int) → Int × Int
 | [] => (0, 0)
 | x :: r => (x.1 + (sumS r).1, x.2 + (sumS r).2)
theorem sumS_snoc (l : List (Int × Int)) (x : Int × Int) : sumS (l ++ [x]) = ((sumS l).1 + x.1, (sumS l).2 + x.2) := by
 induction l with
 | nil => simp [sumS]
 | cons y l ih => simp only [List.cons_append, sumS, ih]; ext <;> simp only <;> omega
theorem sumS_bd : ∀ {l : List (Int × Int)}, (∀ x ∈ l, 1 ≤ x.1 ∧ x.1 ≤ 100000 ∧ 1 ≤ x.2 ∧ x.2 ≤ 64) → (l.length : Int) ≤ (sumS l).1 ∧ (sumS l).1 ≤ 100000 * l.length ∧ (l.length : Int) ≤ (sumS l).2 ∧ (sumS l).2 ≤ 64 * l.length
 | [], _ => by simp [sumS]
 | x :: r, h => by
  have h1 := h x (by simp)
  have h2 := sumS_bd (l := r) fun y hy => h y (by simp [hy])
  simp only [sumS, List.length_cons]
  omega
theorem sumS_take {l : List (Int × Int)} {k : Nat} (h : k < l.length) : sumS (l.take (k + 1)) = ((sumS (l.take k)).1 + (l.getD k (0, 0)).1, (sumS (l.take k)).2 + (l.getD k (0, 0)).2) := by
 rw [← take_snoc (d := (0, 0)) h, sumS_snoc]
theorem take_V {l : List (Int × Int)} (h : ∀ x ∈ l, 1 ≤ x.1 ∧ x.1 ≤ 100000 ∧ 1 ≤ x.2 ∧ x.2 ≤ 64) (k : Nat) : ∀ x ∈ l.take k, 1 ≤ x.1 ∧ x.1 ≤ 100000 ∧ 1 ≤ x.2 ∧ x.2 ≤ 64 := fun x hx => h x (List.mem_of_mem_take hx)
def cWhole : Con := { args := [aC], ress := [Pr], owns := [], pre := fun (c, _) => [cabS c = 0], spec := fun (c, _) => (sumS c.1, ()) }
abbrev annWhole (c : Cab) : Ann := { X := Nat, σ := fun k => ⟨5, [(2, .one (.ptr 3 0)), (3, .one (.ptr 4 0)), (7, .one (.sl 0)), (8, .one (.int .i64 c.1.length)), (9, .one (.int .i64 k))], [(0, .imm 166 sPt c.1), (3, .box 24 [.int .i64 0, .int .i64 0]), (4, .box 24 [.int .i64 (sumS (c.1.take k)).1, .int .i64 (sumS (c.1.take k)).2])]⟩, inv := fun k => k ≤ c.1.length, mu := fun k => c.1.length - k }
theorem vc107 : ∀ (c : Cab), wpF Tryz.prog G27 (ann0 (annWhole c)) Tryz.f107 cWhole (c, ()) = (cabS c = 0 → ∃ (x : Nat), ((↑(List.length c.1) : Int) = (↑(List.length c.1) : Int) ∧ 0 = (↑x : Int) ∧ c.1 = c.1 ∧ (0 : Int) = 0 ∧ (0 : Int) = 0 ∧ 0 = (sumS (List.take x c.1)).1 ∧ 0 = (sumS (List.take x c.1)).2) ∧ x ≤ List.length c.1 ∧ ∀ (x : Nat), x ≤ List.length c.1 → (decide ((↑x : Int) < (↑(List.length c.1) : Int)) = true → ((0 ≤ (↑x : Int) ∧ (↑x : Int) < (↑(List.length c.1) : Int)) ∧ 0 ≤ (↑x : Int) ∧ (↑x : Int) < (↑(List.length c.1) : Int)) ∧ (I64 ((sumS (List.take x c.1)).1 + (List.getD c.1 x (0, 0)).1)) ∧ (I64 ((sumS (List.take x c.1)).2 + (List.getD c.1 x (0, 0)).2)) ∧ ((-9223372036854775808) ≤ (↑x : Int) + 1 ∧ (↑x : Int) + (1 : Int) ≤ 9223372036854775807) ∧ ∃ (y : Nat), ((↑(List.length c.1) : Int) = (↑(List.length c.1) : Int) ∧ (↑x : Int) + 1 = (↑y : Int) ∧ c.1 = c.1 ∧ (0 : Int) = 0 ∧ (0 : Int) = 0 ∧ (sumS (List.take x c.1)).1 + (List.getD c.1 x (0, 0)).1 = (sumS (List.take y c.1)).1 ∧ (sumS (List.take x c.1)).2 + (List.getD c.1 x (0, 0)).2 = (sumS (List.take y c.1)).2) ∧ y ≤ List.length c.1 ∧ List.length c.1 - y < List.length c.1 - x) ∧ (decide ((↑x : Int) < (↑(List.length c.1) : Int)) = false → ((sumS (List.take x c.1)).1, (sumS (List.take x c.1)).2) = sumS c.1)) := by
 intros
 kernel_rfl
theorem wp107 (c : Cab) : wpF Tryz.prog G27 (ann0 (annWhole c)) Tryz.f107 cWhole (c, ()) := by
 refine (vc107 c).mpr ?_
 delta I64
 intro h
 have hv : cabV c := cabS_V h
 obtain ⟨v1, v2, v3, v4, v5, v6, v7⟩ := id hv
 refine ⟨(0 : Nat), ⟨rfl, rfl, rfl, rfl, rfl, rfl, rfl⟩, Nat.zero_le _, fun (k : Nat) hk => ⟨fun hlt => ?_, fun hlt => ?_⟩⟩
 ·have hlt : k < c.1.length := by have := of_decide_eq_true hlt; omega
  have e := sumS_take hlt
  have b := sumS_bd (take_V v3 (k + 1))
  have hl : (c.1.take (k + 1)).length ≤ 6 := by rw [List.length_take]; omega
  have b0 := sumS_bd (take_V v3 k)
  rw [e] at b
  dsimp only at b
  refine ⟨by omega, by omega, by omega, by omega, (k + 1 : Nat), ⟨rfl, by omega, rfl, rfl, rfl, by rw [e], by rw [e]⟩, by omega, by omega⟩
 ·have hlt : ¬ k < c.1.length := by have := of_decide_eq_false hlt; omega
  rw [List.take_of_length_le (by omega)]
theorem ok107 [Sx.Dr] : Ok Tryz.prog 107 cWhole := ok_of_wp mixed g27 (by kernel_rfl) (by kernel_rfl) (fun xx => ann0 (annWhole xx.1)) fun xx => wp107 xx.1
abbrev G28 : Gam := (107, cWhole) :: G27
theorem g28 [Sx.Dr] : GamOk Tryz.prog G28 := .cons ok107 g27
def cWholeR : Con := { args := [aCR], ress := [Pr], owns := [], pre := fun (c, _) => [cabS c = 0], spec := fun (c, _) => (sumS c.1, ()) }
abbrev annWholeR (c : Cab) : Ann := { X := Nat, σ := fun k => ⟨5, [(1, .one (.ptr 2 0)), (2, .one (.ptr 3 0)), (3, .one (.ptr 4 0)), (4, .one (.int .i64 k))], [(0, .imm 102 sPt c.1), (1, .imm 3 sI c.2.1), (2, .box 26 [.sl 0, .sl 1, .int .i64 c.2.2.1, .int .i64 c.2.2.2]), (3, .box 24 [.int .i64 0, .int .i64 0]), (4, .box 24 [.int .i64 (sumS (c.1.take k)).1, .int .i64 (sumS (c.1.take k)).2])]⟩, inv := fun k => k ≤ c.1.length, mu := fun k => c.1.length - k }
theorem vc70 : ∀ (c : Cab), wpF Tryz.prog G28 (ann0 (annWholeR c)) Tryz.f70 cWholeR (c, ()) = (cabS c = 0 → ∃ (x : Nat), (0 = (↑x : Int) ∧ c.1 = c.1 ∧ c.2.1 = c.2.1 ∧ c.2.2.1 = c.2.2.1 ∧ c.2.2.2 = c.2.2.2 ∧ (0 : Int) = 0 ∧ (0 : Int) = 0 ∧ 0 = (sumS (List.take x c.1)).1 ∧ 0 = (sumS (List.take x c.1)).2) ∧ x ≤ List.length c.1 ∧ ∀ (x : Nat), x ≤ List.length c.1 → (decide ((↑x : Int) < (↑(List.length c.1) : Int)) = true → ((0 ≤ (↑x : Int) ∧ (↑x : Int) < (↑(List.length c.1) : Int)) ∧ (0 ≤ (↑x : Int) ∧ (↑x : Int) < (↑(List.length c.1) : Int)) ∧ I64 ((sumS (List.take x c.1)).1 + (List.getD c.1 x (0, 0)).1)) ∧ ((0 ≤ (↑x : Int) ∧ (↑x : Int) < (↑(List.length c.1) : Int)) ∧ (0 ≤ (↑x : Int) ∧ (↑x : Int) < (↑(List.length c.1) : Int)) ∧ I64 ((sumS (List.take x c.1)).2 + (List.getD c.1 x (0, 0)).2)) ∧ ((-9223372036854775808) ≤ (↑x : Int) + 1 ∧ (↑x : Int) + (1 : Int) ≤ 9223372036854775807) ∧ ∃ (y : Nat), ((↑x : Int) + 1 = (↑y : Int) ∧ c.1 = c.1 ∧ c.2.1 = c.2.1 ∧ c.2.2.1 = c.2.2.1 ∧ c.2.2.2 = c.2.2.2 ∧ (0 : Int) = 0 ∧ (0 : Int) = 0 ∧ (sumS (List.take x c.1)).1 + (List.getD c.1 x (0, 0)).1 = (sumS (List.take y c.1)).1 ∧ (sumS (List.take x c.1)).2 + (List.getD c.1 x (0, 0)).2 = (sumS (List.take y c.1)).2) ∧ y ≤ List.length c.1 ∧ List.length c.1 - y < List.length c.1 - x) ∧ (decide ((↑x : Int) < (↑(List.length c.1) : Int)) = false → ((sumS (List.take x c.1)).1, (sumS (List.take x c.1)).2) = sumS c.1)) := by
 intros
 kernel_rfl
theorem wp70 (c : Cab) : wpF Tryz.prog G28 (ann0 (annWholeR c)) Tryz.f70 cWholeR (c, ()) := by
 refine (vc70 c).mpr ?_
 delta I64
 intro h
 have hv : cabV c := cabS_V h
 obtain ⟨v1, v2, v3, v4, v5, v6, v7⟩ := id hv
 refine ⟨(0 : Nat), ⟨rfl, rfl, rfl, rfl, rfl, rfl, rfl, rfl, rfl⟩, Nat.zero_le _, fun (k : Nat) hk => ⟨fun hlt => ?_, fun hlt => ?_⟩⟩
 ·have hlt : k < c.1.length := by have := of_decide_eq_true hlt; omega
  have e := sumS_take hlt
  have b := sumS_bd (take_V v3 (k + 1))
  have hl : (c.1.take (k + 1)).length ≤ 6 := by rw [List.length_take]; omega
  have b0 := sumS_bd (take_V v3 k)
  rw [e] at b
  dsimp only at b
  refine ⟨⟨by omega, by omega, by omega⟩, ⟨by omega, by omega, by omega⟩, by omega, (k + 1 : Nat), ⟨by omega, rfl, rfl, rfl, rfl, rfl, rfl, by rw [e], by rw [e]⟩, by omega, by omega⟩
 ·have hlt : ¬ k < c.1.length := by have := of_decide_eq_false hlt; omega
  rw [List.take_of_length_le (by omega)]
theorem ok70 [Sx.Dr] : Ok Tryz.prog 70 cWholeR := ok_of_wp mixed g28 (by kernel_rfl) (by kernel_rfl) (fun xx => ann0 (annWholeR xx.1)) fun xx => wp70 xx.1
abbrev G29 : Gam := (70, cWholeR) :: G28
theorem g29 [Sx.Dr] : GamOk Tryz.prog G29 := .cons ok70 g28
def lengthF (c : Cab) : Int × Int := if cabS c = 0 then sumS c.1 else (0, 0)
def cLength : Con := { args := [aC], ress := [Pr, I], owns := [], pre := fun (c, _) => [c.1.length ≤ 1000000, c.2.1.length ≤ 1000000], spec := fun (c, _) => (lengthF c, cabS c, ()) }
theorem vc56 : ∀ (c : Cab), wpF Tryz.prog G29 (na ()) Tryz.f56 cLength (c, ()) = (List.length c.1 ≤ 1000000 → List.length c.2.1 ≤ 1000000 → (List.length c.1 ≤ 1000000 ∧ List.length c.2.1 ≤ 1000000) ∧ ((cabS (c.1, c.2.1, c.2.2.1, c.2.2.2) != 0) = true → (0, 0) = lengthF c ∧ cabS (c.1, c.2.1, c.2.2.1, c.2.2.2) = cabS c) ∧ ((cabS (c.1, c.2.1, c.2.2.1, c.2.2.2) != 0) = false → cabS (c.1, c.2.1, c.2.2.1, c.2.2.2) = 0 ∧ ((sumS c.1).1, (sumS c.1).2) = lengthF c ∧ 0 = cabS c)) := by
 intros
 kernel_rfl
theorem wp56 (c : Cab) : wpF Tryz.prog G29 (na ()) Tryz.f56 cLength (c, ()) := by
 refine (vc56 c).mpr ?_
 intro h1 h2
 unfold lengthF
 refine ⟨⟨h1, h2⟩, fun h => ?_, fun h => ?_⟩
 ·rw [if_neg (bne_zero.1 h)]; exact ⟨rfl, rfl⟩
 ·have h := bne_zero'.1 h
  rw [if_pos h, h]; exact ⟨rfl, rfl, rfl⟩
theorem ok56 [Sx.Dr] : Ok Tryz.prog 56 cLength := ok_of_wp mixed g29 (by kernel_rfl) (by kernel_rfl) na fun xx => wp56 xx.1
abbrev G30 : Gam := (56, cLength) :: G29
theorem g30 [Sx.Dr] : GamOk Tryz.prog G30 := .cons ok56 g29
def placeGo (den : Int) : List (Int × Int) → Int → Int → Int × Int
 | [], at_, _ => lowestS at_ 1
 | s :: r, at_, num => if num ≤ s.2 * den then lowestS (at_ * s.2 * den + s.1 * num) (s.2 * den) else placeGo den r (at_ + s.1) (num - s.2 * den)
theorem placeGo_drop (den : Int) {l : List (Int × Int)} {k : Nat} (h : k < l.length) (a n : Int) : placeGo den (l.drop k) a n = if n ≤ (l.getD k (0, 0)).2 * den then lowestS (a * (l.getD k (0, 0)).2 * den + (l.getD k (0, 0)).1 * n) ((l.getD k (0, 0)).2 * den) else placeGo den (l.drop (k + 1)) (a + (l.getD k (0, 0)).1) (n - (l.getD k (0, 0)).2 * den) := by
 rw [List.drop_eq_getElem_cons h, List.getD_eq_getElem?_getD, List.getElem?_eq_getElem h]; rfl
theorem lowest_one (n : Int) : lowestS n 1 = (n, 1) := by
 have : gcdS n 1 = 1 := by unfold gcdS; simp
 unfold lowestS; rw [this]; simp
def cPlace : Con := { args := [aC, aI], ress := [Pr], owns := [], pre := fun (c, n, _) => [cabS c = 0, -1000000000000 ≤ n ∧ n ≤ 1000000000000], spec := fun (c, n, _) => (placeGo 2 c.1 0 n, ()) }
abbrev annPlace (c : Cab) (n : Int) : Ann := { X := Nat × Int × Int, σ := fun p => ⟨4, [(1, .one (.int .i64 p.2.2)), (4, .one (.ptr 3 0)), (5, .one (.int .i64 p.2.1)), (9, .one (.sl 0)), (10, .one (.int .i64 c.1.length)), (11, .one (.int .i64 p.1))], [(0, .imm 166 sPt c.1), (3, .box 68 [.int .i64 0, .int .i64 0])]⟩, inv := fun p => p.1 ≤ c.1.length ∧ (0 ≤ p.2.1 ∧ p.2.1 ≤ 100000 * p.1) ∧ (-1000000000000 - 1000 * p.1 ≤ p.2.2 ∧ p.2.2 ≤ 1000000000000 + 1000 * p.1) ∧ placeGo 2 c.1 0 n = placeGo 2 (c.1.drop p.1) p.2.1 p.2.2, mu := fun p => c.1.length - p.1 }
def vc108_0 (c : Cab) (n : Int) (x : Nat × Int × Int) := (List.getD c.1 x.1 ((0 : Int), (0 : Int)))
def vc108_1 (c : Cab) (n : Int) (x : Nat × Int × Int) := ((-9223372036854775808 : Int) ≤ (2 : Int) * (vc108_0 c n x).2 ∧ (2 : Int) * (vc108_0 c n x).2 ≤ (9223372036854775807 : Int))
theorem vc108 : ∀ (c : Cab) (n : Int), wpF Tryz.prog G30 (ann0 (annPlace c n)) Tryz.f108 cPlace (c, n, ()) = (cabS c = 0 → (-1000000000000) ≤ n ∧ n ≤ 1000000000000 → ∃ (x : Nat × Int × Int), (n = x.2.2 ∧ 0 = x.2.1 ∧ (↑(List.length c.1) : Int) = (↑(List.length c.1) : Int) ∧ 0 = (↑x.1 : Int) ∧ c.1 = c.1 ∧ (0 : Int) = 0 ∧ (0 : Int) = 0) ∧ (x.1 ≤ List.length c.1 ∧ (0 ≤ x.2.1 ∧ x.2.1 ≤ 100000 * (↑x.1 : Int)) ∧ ((-1000000000000 : Int) - 1000 * (↑x.1 : Int) ≤ x.2.2 ∧ x.2.2 ≤ (1000000000000 : Int) + 1000 * (↑x.1 : Int)) ∧ placeGo 2 c.1 0 n = placeGo 2 (List.drop x.1 c.1) x.2.1 x.2.2) ∧ ∀ (x : Nat × Int × Int), x.1 ≤ List.length c.1 ∧ (0 ≤ x.2.1 ∧ x.2.1 ≤ 100000 * (↑x.1 : Int)) ∧ ((-1000000000000 : Int) - 1000 * (↑x.1 : Int) ≤ x.2.2 ∧ x.2.2 ≤ (1000000000000 : Int) + 1000 * (↑x.1 : Int)) ∧ placeGo 2 c.1 0 n = placeGo 2 (List.drop x.1 c.1) x.2.1 x.2.2 → (decide ((↑x.1 : Int) < (↑(List.length c.1) : Int)) = true → ((0 ≤ (↑x.1 : Int) ∧ (↑x.1 : Int) < (↑(List.length c.1) : Int)) ∧ 0 ≤ (↑x.1 : Int) ∧ (↑x.1 : Int) < (↑(List.length c.1) : Int)) ∧ (vc108_1 c n x) ∧ (decide (x.2.2 ≤ 2 * (vc108_0 c n x).2) = true → ((vc108_1 c n x) ∧ ((-9223372036854775808 : Int) ≤ 2 * (vc108_0 c n x).2 * x.2.1 ∧ 2 * (vc108_0 c n x).2 * x.2.1 ≤ 9223372036854775807) ∧ (I64 ((vc108_0 c n x).1 * x.2.2)) ∧ ((-9223372036854775808 : Int) ≤ 2 * (vc108_0 c n x).2 * x.2.1 + (vc108_0 c n x).1 * x.2.2 ∧ 2 * (vc108_0 c n x).2 * x.2.1 + (vc108_0 c n x).1 * x.2.2 ≤ 9223372036854775807) ∧ (vc108_1 c n x) ∧ ((-9200000000000000000 : Int) ≤ 2 * (vc108_0 c n x).2 * x.2.1 + (vc108_0 c n x).1 * x.2.2 ∧ 2 * (vc108_0 c n x).2 * x.2.1 + (vc108_0 c n x).1 * x.2.2 ≤ 9200000000000000000) ∧ (0 : Int) < 2 * (vc108_0 c n x).2 ∧ 2 * (vc108_0 c n x).2 ≤ 9200000000000000000) ∧ ((lowestS (2 * (vc108_0 c n x).2 * x.2.1 + (vc108_0 c n x).1 * x.2.2) (2 * (vc108_0 c n x).2)).1, (lowestS (2 * (vc108_0 c n x).2 * x.2.1 + (vc108_0 c n x).1 * x.2.2) (2 * (vc108_0 c n x).2)).2) = placeGo 2 c.1 0 n) ∧ (decide (x.2.2 ≤ 2 * (vc108_0 c n x).2) = false → ((vc108_1 c n x) ∧ I64 (x.2.2 - 2 * (vc108_0 c n x).2)) ∧ (I64 (x.2.1 + (vc108_0 c n x).1)) ∧ ((-9223372036854775808) ≤ (↑x.1 : Int) + 1 ∧ (↑x.1 : Int) + (1 : Int) ≤ 9223372036854775807) ∧ ∃ (y : Nat × Int × Int), (x.2.2 - 2 * (vc108_0 c n x).2 = y.2.2 ∧ x.2.1 + (vc108_0 c n x).1 = y.2.1 ∧ (↑(List.length c.1) : Int) = (↑(List.length c.1) : Int) ∧ (↑x.1 : Int) + 1 = (↑y.1 : Int) ∧ c.1 = c.1 ∧ (0 : Int) = 0 ∧ (0 : Int) = 0) ∧ (y.1 ≤ List.length c.1 ∧ (0 ≤ y.2.1 ∧ y.2.1 ≤ 100000 * (↑y.1 : Int)) ∧ ((-1000000000000 : Int) - 1000 * (↑y.1 : Int) ≤ y.2.2 ∧ y.2.2 ≤ (1000000000000 : Int) + 1000 * (↑y.1 : Int)) ∧ placeGo 2 c.1 0 n = placeGo 2 (List.drop y.1 c.1) y.2.1 y.2.2) ∧ List.length c.1 - y.1 < List.length c.1 - x.1)) ∧ (decide ((↑x.1 : Int) < (↑(List.length c.1) : Int)) = false → (x.2.1, 1) = placeGo 2 c.1 0 n)) := by
 intros
 kernel_rfl
theorem wp108 (c : Cab) (n : Int) : wpF Tryz.prog G30 (ann0 (annPlace c n)) Tryz.f108 cPlace (c, n, ()) := by
 refine (vc108 c n).mpr ?_
 delta vc108_0 vc108_1
 delta I64
 intro h hn
 have hv : cabV c := cabS_V h
 obtain ⟨v1, v2, v3, v4, v5, v6, v7⟩ := id hv
 refine ⟨(0, 0, n), ⟨rfl, rfl, rfl, rfl, rfl, rfl, rfl⟩, ⟨Nat.zero_le _, by dsimp only; omega, by dsimp only; omega, rfl⟩, ?_⟩
 rintro ⟨k, a, m⟩ ⟨k1, k2, k3, k4⟩
 dsimp only at k1 k2 k3 k4 ⊢
 refine ⟨fun hlt => ?_, fun hlt => ?_⟩
 ·have hlt : k < c.1.length := by have := of_decide_eq_true hlt; omega
  have hd := placeGo_drop 2 hlt a m
  have hs := v3 _ (getD_mem (d := (0, 0)) hlt)
  generalize c.1.getD k (0, 0) = s at *
  have e2 : s.2 * 2 = 2 * s.2 := Int.mul_comm _ _
  rw [e2] at hd
  refine ⟨by omega, by omega, fun hc => ?_, fun hc => ?_⟩
  ·have hc : m ≤ 2 * s.2 := of_decide_eq_true hc
   rw [if_pos hc] at hd
   have m1 := mul_bd (a := 2 * s.2) (b := a) (A := 128) (B := 600000) ⟨by omega, by omega⟩ ⟨by omega, by omega⟩
   have m2 := mul_bd (a := s.1) (b := m) (A := 100000) (B := 1000000006000) ⟨by omega, by omega⟩ ⟨by omega, by omega⟩
   have e3 : a * s.2 * 2 = 2 * s.2 * a := by rw [Int.mul_assoc, e2, Int.mul_comm]
   rw [k4, hd, e3]
   generalize 2 * s.2 * a = u at *
   generalize s.1 * m = v at *
   exact ⟨by omega, rfl⟩
  ·have hc : ¬ m ≤ 2 * s.2 := of_decide_eq_false hc
   rw [if_neg hc] at hd
   refine ⟨⟨by omega, by omega⟩, by omega, by omega, (k + 1, a + s.1, m - 2 * s.2), ⟨rfl, rfl, rfl, by simp, rfl, rfl, rfl⟩, ⟨by dsimp only; omega, by dsimp only; omega, by dsimp only; omega, ?_⟩, by dsimp only; omega⟩
   rw [k4, hd]
 ·have hlt : ¬ k < c.1.length := by have := of_decide_eq_false hlt; omega
  rw [k4, List.drop_eq_nil_of_le (by omega)]
  show (a, 1) = _
  exact (lowest_one a).symm
theorem ok108 [Sx.Dr] : Ok Tryz.prog 108 cPlace := ok_of_wp mixed g30 (by kernel_rfl) (by kernel_rfl) (fun xx => ann0 (annPlace xx.1 xx.2.1)) fun xx => wp108 xx.1 xx.2.1
abbrev G31 : Gam := (108, cPlace) :: G30
theorem g31 [Sx.Dr] : GamOk Tryz.prog G31 := .cons ok108 g30
def cPlaceR : Con := { args := [aCR, aI, aI], ress := [Pr], owns := [], pre := fun (c, n, d, _) => [cabS c = 0, -1000000000000 ≤ n ∧ n ≤ 1000000000000, 0 < d ∧ d ≤ 2], spec := fun (c, n, d, _) => (placeGo d c.1 0 n, ()) }
abbrev annPlaceR (c : Cab) (n d : Int) : Ann := { X := Nat × Int × Int, σ := fun p => ⟨4, [(1, .one (.int .i64 p.2.2)), (2, .one (.int .i64 d)), (3, .one (.ptr 2 0)), (6, .one (.ptr 3 0)), (7, .one (.int .i64 p.2.1)), (8, .one (.int .i64 p.1))], [(0, .imm 102 sPt c.1), (1, .imm 3 sI c.2.1), (2, .box 26 [.sl 0, .sl 1, .int .i64 c.2.2.1, .int .i64 c.2.2.2]), (3, .box 68 [.int .i64 0, .int .i64 0])]⟩, inv := fun p => p.1 ≤ c.1.length ∧ (0 ≤ p.2.1 ∧ p.2.1 ≤ 100000 * p.1) ∧ (-1000000000000 - 1000 * p.1 ≤ p.2.2 ∧ p.2.2 ≤ 1000000000000 + 1000 * p.1) ∧ placeGo d c.1 0 n = placeGo d (c.1.drop p.1) p.2.1 p.2.2, mu := fun p => c.1.length - p.1 }
def vc72_0 (c : Cab) (n d : Int) (x : Nat × Int × Int) := (List.getD c.1 x.1 ((0 : Int), (0 : Int)))
theorem vc72 : ∀ (c : Cab) (n d : Int), wpF Tryz.prog G31 (ann0 (annPlaceR c n d)) Tryz.f72 cPlaceR (c, n, d, ()) = (cabS c = 0 → (-1000000000000) ≤ n ∧ n ≤ 1000000000000 → 0 < d ∧ d ≤ 2 → ∃ (x : Nat × Int × Int), (n = x.2.2 ∧ d = d ∧ 0 = x.2.1 ∧ 0 = (↑x.1 : Int) ∧ c.1 = c.1 ∧ c.2.1 = c.2.1 ∧ c.2.2.1 = c.2.2.1 ∧ c.2.2.2 = c.2.2.2 ∧ (0 : Int) = 0 ∧ (0 : Int) = 0) ∧ (x.1 ≤ List.length c.1 ∧ (0 ≤ x.2.1 ∧ x.2.1 ≤ 100000 * (↑x.1 : Int)) ∧ ((-1000000000000 : Int) - 1000 * (↑x.1 : Int) ≤ x.2.2 ∧ x.2.2 ≤ (1000000000000 : Int) + 1000 * (↑x.1 : Int)) ∧ placeGo d c.1 0 n = placeGo d (List.drop x.1 c.1) x.2.1 x.2.2) ∧ ∀ (x : Nat × Int × Int), x.1 ≤ List.length c.1 ∧ (0 ≤ x.2.1 ∧ x.2.1 ≤ 100000 * (↑x.1 : Int)) ∧ ((-1000000000000 : Int) - 1000 * (↑x.1 : Int) ≤ x.2.2 ∧ x.2.2 ≤ (1000000000000 : Int) + 1000 * (↑x.1 : Int)) ∧ placeGo d c.1 0 n = placeGo d (List.drop x.1 c.1) x.2.1 x.2.2 → (decide ((↑x.1 : Int) < (↑(List.length c.1) : Int)) = true → ((0 ≤ (↑x.1 : Int) ∧ (↑x.1 : Int) < (↑(List.length c.1) : Int)) ∧ 0 ≤ (↑x.1 : Int) ∧ (↑x.1 : Int) < (↑(List.length c.1) : Int)) ∧ (I64 ((vc72_0 c n d x).2 * d)) ∧ (decide (x.2.2 ≤ (vc72_0 c n d x).2 * d) = true → ((I64 (x.2.1 * (vc72_0 c n d x).2)) ∧ (I64 (x.2.1 * (vc72_0 c n d x).2 * d)) ∧ (I64 ((vc72_0 c n d x).1 * x.2.2)) ∧ (I64 (x.2.1 * (vc72_0 c n d x).2 * d + (vc72_0 c n d x).1 * x.2.2)) ∧ (I64 ((vc72_0 c n d x).2 * d)) ∧ ((-9200000000000000000) ≤ x.2.1 * (vc72_0 c n d x).2 * d + (vc72_0 c n d x).1 * x.2.2 ∧ x.2.1 * (vc72_0 c n d x).2 * d + (vc72_0 c n d x).1 * x.2.2 ≤ 9200000000000000000) ∧ 0 < (vc72_0 c n d x).2 * d ∧ (vc72_0 c n d x).2 * d ≤ 9200000000000000000) ∧ ((lowestS (x.2.1 * (vc72_0 c n d x).2 * d + (vc72_0 c n d x).1 * x.2.2) ((vc72_0 c n d x).2 * d)).1, (lowestS (x.2.1 * (vc72_0 c n d x).2 * d + (vc72_0 c n d x).1 * x.2.2) ((vc72_0 c n d x).2 * d)).2) = placeGo d c.1 0 n) ∧ (decide (x.2.2 ≤ (vc72_0 c n d x).2 * d) = false → (I64 (x.2.1 + (vc72_0 c n d x).1)) ∧ ((I64 ((vc72_0 c n d x).2 * d)) ∧ I64 (x.2.2 - (vc72_0 c n d x).2 * d)) ∧ ((-9223372036854775808) ≤ (↑x.1 : Int) + 1 ∧ (↑x.1 : Int) + (1 : Int) ≤ 9223372036854775807) ∧ ∃ (y : Nat × Int × Int), (x.2.2 - (vc72_0 c n d x).2 * d = y.2.2 ∧ d = d ∧ x.2.1 + (vc72_0 c n d x).1 = y.2.1 ∧ (↑x.1 : Int) + 1 = (↑y.1 : Int) ∧ c.1 = c.1 ∧ c.2.1 = c.2.1 ∧ c.2.2.1 = c.2.2.1 ∧ c.2.2.2 = c.2.2.2 ∧ (0 : Int) = 0 ∧ (0 : Int) = 0) ∧ (y.1 ≤ List.length c.1 ∧ (0 ≤ y.2.1 ∧ y.2.1 ≤ 100000 * (↑y.1 : Int)) ∧ ((-1000000000000 : Int) - 1000 * (↑y.1 : Int) ≤ y.2.2 ∧ y.2.2 ≤ (1000000000000 : Int) + 1000 * (↑y.1 : Int)) ∧ placeGo d c.1 0 n = placeGo d (List.drop y.1 c.1) y.2.1 y.2.2) ∧ List.length c.1 - y.1 < List.length c.1 - x.1)) ∧ (decide ((↑x.1 : Int) < (↑(List.length c.1) : Int)) = false → (((-9200000000000000000) ≤ x.2.1 ∧ x.2.1 ≤ 9200000000000000000) ∧ (0 : Int) < 1 ∧ (1 : Int) ≤ 9200000000000000000) ∧ ((lowestS x.2.1 1).1, (lowestS x.2.1 1).2) = placeGo d c.1 0 n)) := by
 intros
 kernel_rfl
theorem wp72 (c : Cab) (n d : Int) : wpF Tryz.prog G31 (ann0 (annPlaceR c n d)) Tryz.f72 cPlaceR (c, n, d, ()) := by
 refine (vc72 c n d).mpr ?_
 delta vc72_0
 delta I64
 intro h hn hdn
 have hv : cabV c := cabS_V h
 obtain ⟨v1, v2, v3, v4, v5, v6, v7⟩ := id hv
 refine ⟨(0, 0, n), ⟨rfl, rfl, rfl, rfl, rfl, rfl, rfl, rfl, rfl, rfl⟩, ⟨Nat.zero_le _, by dsimp only; omega, by dsimp only; omega, rfl⟩, ?_⟩
 rintro ⟨k, a, m⟩ ⟨k1, k2, k3, k4⟩
 dsimp only at k1 k2 k3 k4 ⊢
 refine ⟨fun hlt => ?_, fun hlt => ?_⟩
 ·have hlt : k < c.1.length := by have := of_decide_eq_true hlt; omega
  have hd := placeGo_drop d hlt a m
  have hs := v3 _ (getD_mem (d := (0, 0)) hlt)
  generalize c.1.getD k (0, 0) = s at *
  have m0 := mul_bd (a := s.2) (b := d) (A := 64) (B := 2) ⟨by omega, by omega⟩ ⟨by omega, by omega⟩
  have p0 := Int.mul_pos (a := s.2) (b := d) (by omega) (by omega)
  have m1 := mul_bd (a := a) (b := s.2) (A := 600000) (B := 64) ⟨by omega, by omega⟩ ⟨by omega, by omega⟩
  have m3 := mul_bd (a := a * s.2) (b := d) (A := 38400000) (B := 2) ⟨by omega, by omega⟩ ⟨by omega, by omega⟩
  have m2 := mul_bd (a := s.1) (b := m) (A := 100000) (B := 1000000006000) ⟨by omega, by omega⟩ ⟨by omega, by omega⟩
  generalize a * s.2 * d = u at *
  generalize s.1 * m = v at *
  generalize s.2 * d = q at *
  refine ⟨by omega, by omega, fun hc => ?_, fun hc => ?_⟩
  ·have hc : m ≤ q := of_decide_eq_true hc
   rw [if_pos hc] at hd
   rw [k4, hd]
   exact ⟨by omega, rfl⟩
  ·have hc : ¬ m ≤ q := of_decide_eq_false hc
   rw [if_neg hc] at hd
   refine ⟨by omega, ⟨by omega, by omega⟩, by omega, (k + 1, a + s.1, m - q), ⟨rfl, rfl, rfl, by simp, rfl, rfl, rfl, rfl, rfl, rfl⟩, ⟨by dsimp only; omega, by dsimp only; omega, by dsimp only; omega, ?_⟩, by dsimp only; omega⟩
   rw [k4, hd]
 ·have hlt : ¬ k < c.1.length := by have := of_decide_eq_false hlt; omega
  rw [k4, List.drop_eq_nil_of_le (by omega)]
  exact ⟨⟨by omega, by omega⟩, rfl⟩
theorem ok72 [Sx.Dr] : Ok Tryz.prog 72 cPlaceR := ok_of_wp mixed g31 (by kernel_rfl) (by kernel_rfl) (fun xx => ann0 (annPlaceR xx.1 xx.2.1 xx.2.2.1)) fun xx => wp72 xx.1 xx.2.1 xx.2.2.1
abbrev G32 : Gam := (72, cPlaceR) :: G31
theorem g32 [Sx.Dr] : GamOk Tryz.prog G32 := .cons ok72 g31
def placeE (c : Cab) (t : Int) : Int := if cabS c = 0 then withinS t 0 (sumS c.1).2 else cabS c
def placeF (c : Cab) (t : Int) : Int × Int := if placeE c t = 0 then placeGo 2 c.1 0 (2 * t) else (0, 0)
def cXPlace : Con := { args := [aC, aI], ress := [Pr, I], owns := [], pre := fun (c, t, _) => [c.1.length ≤ 1000000, c.2.1.length ≤ 1000000], spec := fun (c, t, _) => (placeF c t, placeE c t, ()) }
theorem vc53 : ∀ (c : Cab) (t : Int), wpF Tryz.prog G32 (na ()) Tryz.f53 cXPlace (c, t, ()) = (List.length c.1 ≤ 1000000 → List.length c.2.1 ≤ 1000000 → (List.length c.1 ≤ 1000000 ∧ List.length c.2.1 ≤ 1000000) ∧ ((cabS (c.1, c.2.1, c.2.2.1, c.2.2.2) != 0) = true → (0, 0) = placeF c t ∧ cabS (c.1, c.2.1, c.2.2.1, c.2.2.2) = placeE c t) ∧ ((cabS (c.1, c.2.1, c.2.2.1, c.2.2.2) != 0) = false → cabS (c.1, c.2.1, c.2.2.1, c.2.2.2) = 0 ∧ ((withinS t 0 (sumS c.1).2 != 0) = true → (0, 0) = placeF c t ∧ withinS t 0 (sumS c.1).2 = placeE c t) ∧ ((withinS t 0 (sumS c.1).2 != 0) = false → (((-9223372036854775808 : Int) ≤ 2 * t ∧ 2 * t ≤ 9223372036854775807) ∧ cabS (c.1, c.2.1, c.2.2.1, c.2.2.2) = 0 ∧ (-1000000000000 : Int) ≤ 2 * t ∧ 2 * t ≤ 1000000000000) ∧ ((placeGo 2 c.1 0 (2 * t)).1, (placeGo 2 c.1 0 (2 * t)).2) = placeF c t ∧ 0 = placeE c t))) := by
 intros
 kernel_rfl
theorem wp53 (c : Cab) (t : Int) : wpF Tryz.prog G32 (na ()) Tryz.f53 cXPlace (c, t, ()) := by
 refine (vc53 c t).mpr ?_
 intro h1 h2
 unfold placeF placeE
 refine ⟨⟨h1, h2⟩, fun h => ?_, fun h => ?_⟩
 ·have h := bne_zero.1 h
  rw [if_neg h, if_neg h]; exact ⟨rfl, rfl⟩
 ·have h := bne_zero'.1 h
  rw [if_pos h]
  have hv : cabV c := cabS_V h
  obtain ⟨v1, v2, v3, v4, v5, v6, v7⟩ := id hv
  have b := sumS_bd v3
  refine ⟨h, fun h' => ?_, fun h' => ?_⟩
  ·have h' := bne_zero.1 h'
   rw [if_neg h']; exact ⟨rfl, rfl⟩
  ·have h' := bne_zero'.1 h'
   have hw : 0 ≤ t ∧ t ≤ (sumS c.1).2 := within_zero.1 h'
   rw [if_pos h', h']
   exact ⟨⟨by omega, h, by omega⟩, rfl, rfl⟩
theorem ok53 [Sx.Dr] : Ok Tryz.prog 53 cXPlace := ok_of_wp mixed g32 (by kernel_rfl) (by kernel_rfl) na fun xx => wp53 xx.1 xx.2.1
abbrev G33 : Gam := (53, cXPlace) :: G32
theorem g33 [Sx.Dr] : GamOk Tryz.prog G33 := .cons ok53 g32
abbrev Flt : Type := Int × Int × Int × Int
abbrev sFlt : Sch := .prod sI (.prod sI (.prod sI sI))
abbrev aF : AK := .val true sFlt
def secE (c : Cab) (s : Int) : Int := bif decide (s < 0) || decide ((c.1.length : Int) ≤ s) then 10 else 0
def offE (c : Cab) (s t : Int) : Int := withinS t 1 ((c.1.getD s.toNat (0, 0)).2 - 1)
def cSecE : Con := { args := [aC, aI], ress := [I], owns := [], pre := fun (c, _) => [c.1.length ≤ 1000000], spec := fun (c, s, _) => (secE c s, ()) }
theorem vc103 : ∀ (c : Cab) (s : Int), wpF Tryz.prog G33 (na ()) Tryz.f103 cSecE (c, s, ()) = (List.length c.1 ≤ 1000000 → (bif bif decide (s < 0) then true else decide ((↑(List.length c.1) : Int) ≤ s) then 10 else 0) = secE c s) := by
 intros
 kernel_rfl
theorem wp103 (c : Cab) (s : Int) : wpF Tryz.prog G33 (na ()) Tryz.f103 cSecE (c, s, ()) := by
 refine (vc103 c s).mpr ?_
 intro _
 unfold secE
 cases decide (s < 0) <;> rfl
theorem ok103 [Sx.Dr] : Ok Tryz.prog 103 cSecE := ok_of_wp mixed g33 (by kernel_rfl) (by kernel_rfl) na fun xx => wp103 xx.1 xx.2.1
abbrev G34 : Gam := (103, cSecE) :: G33
theorem g34 [Sx.Dr] : GamOk Tryz.prog G34 := .cons ok103 g33
def cOffE : Con := { args := [aC, aI, aI], ress := [I], owns := [], pre := fun (c, s, _) => [cabS c = 0, 0 ≤ s ∧ s < c.1.length], spec := fun (c, s, t, _) => (offE c s t, ()) }
theorem vc104 : ∀ (c : Cab) (s t : Int), wpF Tryz.prog G34 (na ()) Tryz.f104 cOffE (c, s, t, ()) = (cabS c = 0 → 0 ≤ s ∧ s < (↑(List.length c.1) : Int) → ((0 ≤ s ∧ s < (↑(List.length c.1) : Int)) ∧ (0 ≤ s ∧ s < (↑(List.length c.1) : Int)) ∧ (-9223372036854775808) ≤ (List.getD c.1 (Int.toNat s) (0, 0)).2 - 1 ∧ (List.getD c.1 (Int.toNat s) (0, 0)).2 - (1 : Int) ≤ 9223372036854775807) ∧ withinS t 1 ((List.getD c.1 (Int.toNat s) (0, 0)).2 - 1) = offE c s t) := by
 intros
 kernel_rfl
theorem wp104 (c : Cab) (s t : Int) : wpF Tryz.prog G34 (na ()) Tryz.f104 cOffE (c, s, t, ()) := by
 refine (vc104 c s t).mpr ?_
 intro h hs
 have hv : cabV c := cabS_V h
 have b := hv.2.2.1 _ (getD_mem (d := (0, 0)) (l := c.1) (k := s.toNat) (by omega))
 exact ⟨by omega, rfl⟩
theorem ok104 [Sx.Dr] : Ok Tryz.prog 104 cOffE := ok_of_wp mixed g34 (by kernel_rfl) (by kernel_rfl) na fun xx => wp104 xx.1 xx.2.1 xx.2.2.1
abbrev G35 : Gam := (104, cOffE) :: G34
theorem g35 [Sx.Dr] : GamOk Tryz.prog G35 := .cons ok104 g34
theorem first_one {x : Int} : firstS [x] = x := by unfold firstS; split <;> simp_all [firstS]
def fltS (c : Cab) (f : Flt) : Int :=
 if cabS c = 0 then if secE c f.1 = 0 then firstS [offE c f.1 f.2.1, withinS f.2.2.1 0 100000, withinS f.2.2.2 (-1024) 1024, if f.2.2.2 = 0 then 6 else 0] else 10 else cabS c
theorem secE_zero {c : Cab} {s : Int} : secE c s = 0 ↔ 0 ≤ s ∧ s < c.1.length := by
 unfold secE
 by_cases h1 : s < 0
 ·simp [h1] <;> omega
 ·by_cases h2 : (c.1.length : Int) ≤ s
  ·simp [h2] <;> omega
  ·simp [h1, h2] <;> omega
theorem secE_cases (c : Cab) (s : Int) : secE c s = 0 ∨ secE c s = 10 := by
 unfold secE
 cases (decide (s < 0) || decide ((c.1.length : Int) ≤ s)) <;> simp
theorem zero_ite {n : Int} (e : Int) : (bif n == 0 then e else 0) = if n = 0 then e else 0 := by
 by_cases h : n = 0
 ·simp [h]
 ·have : (n == 0) = false := by simpa using h
  rw [this, if_neg h]; rfl
def cFlt : Con := { args := [aC, aF], ress := [I], owns := [], pre := fun (c, _) => [c.1.length ≤ 1000000, c.2.1.length ≤ 1000000], spec := fun (c, f, _) => (fltS c f, ()) }
def vc30_0 (c : Cab) (f : Flt) := (c.1, c.2.1, c.2.2.1, c.2.2.2)
theorem vc30 : ∀ (c : Cab) (f : Flt), wpF Tryz.prog G35 (na ()) Tryz.f30 cFlt (c, f, ()) = (List.length c.1 ≤ 1000000 → List.length c.2.1 ≤ 1000000 → (List.length c.1 ≤ 1000000 ∧ List.length c.2.1 ≤ 1000000 ∧ List.length c.1 ≤ 1000000 ∧ 2 ≤ 1000000) ∧ ((firstS [cabS (vc30_0 c f), secE (vc30_0 c f) f.1] != 0) = true → firstS [cabS (vc30_0 c f), secE (vc30_0 c f) f.1] = fltS c f) ∧ ((firstS [cabS (vc30_0 c f), secE (vc30_0 c f) f.1] != 0) = false → (cabS (vc30_0 c f) = 0 ∧ (0 ≤ f.1 ∧ f.1 < (↑(List.length c.1) : Int)) ∧ 4 ≤ 1000000) ∧ firstS [offE (vc30_0 c f) f.1 f.2.1, withinS f.2.2.1 0 100000, withinS f.2.2.2 (-1024) 1024, bif f.2.2.2 == 0 then 6 else 0] = fltS c f)) := by
 intros
 kernel_rfl
theorem wp30 (c : Cab) (f : Flt) : wpF Tryz.prog G35 (na ()) Tryz.f30 cFlt (c, f, ()) := by
 refine (vc30 c f).mpr ?_
 delta vc30_0
 intro h1 h2
 have e1 : firstS [cabS c, secE c f.1] = if cabS c = 0 then secE c f.1 else cabS c := by
  rw [firstS_cons]; split
  ·exact first_one
  ·rfl
 refine ⟨⟨h1, h2, h1, by omega⟩, fun h => ?_, fun h => ?_⟩
 ·have h : ¬ firstS [cabS c, secE c f.1] = 0 := bne_zero.1 h
  show firstS [cabS c, secE c f.1] = _
  rw [e1] at h ⊢
  unfold fltS
  by_cases hc : cabS c = 0
  ·rw [if_pos hc] at h
   rw [if_pos hc, if_pos hc, if_neg h]
   exact (secE_cases c f.1).resolve_left h
  ·rw [if_neg hc, if_neg hc]
 ·have h : firstS [cabS c, secE c f.1] = 0 := bne_zero'.1 h
  rw [e1] at h
  have hc : cabS c = 0 := by
   by_cases hc : cabS c = 0
   ·exact hc
   ·rw [if_neg hc] at h; exact absurd h hc
  rw [if_pos hc] at h
  refine ⟨⟨hc, secE_zero.1 h, by omega⟩, ?_⟩
  unfold fltS
  rw [if_pos hc, if_pos h, zero_ite]
theorem ok30 [Sx.Dr] : Ok Tryz.prog 30 cFlt := ok_of_wp mixed g35 (by kernel_rfl) (by kernel_rfl) na fun xx => wp30 xx.1 xx.2.1
abbrev G36 : Gam := (30, cFlt) :: G35
theorem g36 [Sx.Dr] : GamOk Tryz.prog G36 := .cons ok30 g35
def cFltR : Con := { args := [aCR, aF], ress := [I], owns := [], pre := fun (c, _) => [c.1.length ≤ 1000000, c.2.1.length ≤ 1000000], spec := fun (c, f, _) => (fltS c f, ()) }
def vc23_0 (c : Cab) (f : Flt) := (firstS [withinS f.2.1 (1 : Int) ((List.getD c.1 (Int.toNat f.1) ((0 : Int), (0 : Int))).2 - (1 : Int)), withinS f.2.2.1 (0 : Int) (100000 : Int), withinS f.2.2.2 (-1024 : Int) (1024 : Int)] != (0 : Int))
theorem vc23 : ∀ (c : Cab) (f : Flt), wpF Tryz.prog G36 (na ()) Tryz.f23 cFltR (c, f, ()) = (List.length c.1 ≤ 1000000 → List.length c.2.1 ≤ 1000000 → (List.length c.1 ≤ 1000000 ∧ List.length c.2.1 ≤ 1000000) ∧ ((cabS (c.1, c.2.1, c.2.2.1, c.2.2.2) != 0) = true → cabS (c.1, c.2.1, c.2.2.1, c.2.2.2) = fltS c f) ∧ ((cabS (c.1, c.2.1, c.2.2.1, c.2.2.2) != 0) = false → ((bif decide (f.1 < 0) then true else decide ((↑(List.length c.1) : Int) ≤ f.1)) = true → 10 = fltS c f) ∧ ((bif decide (f.1 < 0) then true else decide ((↑(List.length c.1) : Int) ≤ f.1)) = false → ((0 ≤ f.1 ∧ f.1 < (↑(List.length c.1) : Int)) ∧ (0 ≤ f.1 ∧ f.1 < (↑(List.length c.1) : Int)) ∧ ((-9223372036854775808) ≤ (List.getD c.1 (Int.toNat f.1) (0, 0)).2 - 1 ∧ (List.getD c.1 (Int.toNat f.1) (0, 0)).2 - (1 : Int) ≤ 9223372036854775807) ∧ 3 ≤ 1000000) ∧ ((vc23_0 c f) = true → firstS [withinS f.2.1 1 ((List.getD c.1 (Int.toNat f.1) (0, 0)).2 - 1), withinS f.2.2.1 0 100000, withinS f.2.2.2 (-1024) 1024] = fltS c f) ∧ ((vc23_0 c f) = false → (bif f.2.2.2 == 0 then 6 else 0) = fltS c f)))) := by
 intros
 kernel_rfl
theorem wp23 (c : Cab) (f : Flt) : wpF Tryz.prog G36 (na ()) Tryz.f23 cFltR (c, f, ()) := by
 refine (vc23 c f).mpr ?_
 delta vc23_0
 intro h1 h2
 refine ⟨⟨h1, h2⟩, fun h => ?_, fun h => ?_⟩
 ·have h : ¬ cabS c = 0 := bne_zero.1 h
  unfold fltS; rw [if_neg h]
 have hc : cabS c = 0 := bne_zero'.1 h
 unfold fltS
 rw [if_pos hc]
 have e : (bif decide (f.1 < 0) then true else decide ((c.1.length : Int) ≤ f.1)) = true ↔ secE c f.1 ≠ 0 := by
  unfold secE
  cases decide (f.1 < 0) <;> cases decide ((c.1.length : Int) ≤ f.1) <;> simp
 refine ⟨fun h => ?_, fun h => ?_⟩
 ·rw [if_neg (e.1 h)]
 have hs : secE c f.1 = 0 := by
  by_cases hs : secE c f.1 = 0
  ·exact hs
  ·have := e.2 hs; rw [h] at this; cases this
 have hr := secE_zero.1 hs
 have hv : cabV c := cabS_V hc
 have b := hv.2.2.1 _ (getD_mem (d := (0, 0)) (l := c.1) (k := f.1.toNat) (by omega))
 rw [if_pos hs]
 have e4 : firstS [offE c f.1 f.2.1, withinS f.2.2.1 0 100000, withinS f.2.2.2 (-1024) 1024, if f.2.2.2 = 0 then 6 else 0] = if firstS [offE c f.1 f.2.1, withinS f.2.2.1 0 100000, withinS f.2.2.2 (-1024) 1024] = 0 then (if f.2.2.2 = 0 then 6 else 0) else firstS [offE c f.1 f.2.1, withinS f.2.2.1 0 100000, withinS f.2.2.2 (-1024) 1024] := by
  generalize offE c f.1 f.2.1 = p
  generalize withinS f.2.2.1 0 100000 = q
  generalize withinS f.2.2.2 (-1024) 1024 = r
  generalize (if f.2.2.2 = 0 then (6 : Int) else 0) = s
  simp only [firstS]
  repeat' split
  all_goals first | rfl | omega
 rw [e4]
 refine ⟨⟨hr, hr, by omega, by omega⟩, fun h => ?_, fun h => ?_⟩
 ·have h : ¬ firstS [offE c f.1 f.2.1, withinS f.2.2.1 0 100000, withinS f.2.2.2 (-1024) 1024] = 0 := bne_zero.1 h
  rw [if_neg h]; rfl
 ·have h : firstS [offE c f.1 f.2.1, withinS f.2.2.1 0 100000, withinS f.2.2.2 (-1024) 1024] = 0 := bne_zero'.1 h
  rw [if_pos h, zero_ite]
theorem ok23 [Sx.Dr] : Ok Tryz.prog 23 cFltR := ok_of_wp mixed g36 (by kernel_rfl) (by kernel_rfl) na fun xx => wp23 xx.1 xx.2.1
abbrev G37 : Gam := (23, cFltR) :: G36
theorem g37 [Sx.Dr] : GamOk Tryz.prog G37 := .cons ok23 g36
def winS (c : Cab) (f : Flt) (w : Int) : Int := firstS [fltS c f, withinS w 0 1000]
def cWinC : Con := { args := [aC, aF, aI], ress := [I], owns := [], pre := fun (c, _) => [c.1.length ≤ 1000000, c.2.1.length ≤ 1000000], spec := fun (c, f, w, _) => (winS c f w, ()) }
theorem vc84 : ∀ (c : Cab) (f : Flt) (w : Int), wpF Tryz.prog G37 (na ()) Tryz.f84 cWinC (c, f, w, ()) = (List.length c.1 ≤ 1000000 → List.length c.2.1 ≤ 1000000 → (List.length c.1 ≤ 1000000 ∧ List.length c.2.1 ≤ 1000000 ∧ 2 ≤ 1000000) ∧ firstS [fltS (c.1, c.2.1, c.2.2.1, c.2.2.2) (f.1, f.2.1, f.2.2.1, f.2.2.2), withinS w 0 1000] = winS c f w) := by
 intros
 kernel_rfl
theorem wp84 (c : Cab) (f : Flt) (w : Int) : wpF Tryz.prog G37 (na ()) Tryz.f84 cWinC (c, f, w, ()) := by
 refine (vc84 c f w).mpr ?_
 intro h1 h2
 exact ⟨⟨h1, h2, by omega⟩, rfl⟩
theorem ok84 [Sx.Dr] : Ok Tryz.prog 84 cWinC := ok_of_wp mixed g37 (by kernel_rfl) (by kernel_rfl) na fun xx => wp84 xx.1 xx.2.1 xx.2.2.1
abbrev G38 : Gam := (84, cWinC) :: G37
theorem g38 [Sx.Dr] : GamOk Tryz.prog G38 := .cons ok84 g37
def fltV (c : Cab) (f : Flt) : Prop := cabV c ∧ (0 ≤ f.1 ∧ f.1 < c.1.length) ∧ (1 ≤ f.2.1 ∧ f.2.1 < (c.1.getD f.1.toNat (0, 0)).2) ∧ (0 ≤ f.2.2.1 ∧ f.2.2.1 ≤ 100000) ∧ (-1024 ≤ f.2.2.2 ∧ f.2.2.2 ≤ 1024) ∧ f.2.2.2 ≠ 0
theorem fltS_V {c : Cab} {f : Flt} (h : fltS c f = 0) : cabS c = 0 ∧ fltV c f := by
 unfold fltS at h
 split at h
 ·rename_i hc
  split at h
  ·rename_i hs
   have hz := firstS_zero h
   simp only [List.mem_cons, List.not_mem_nil, or_false, forall_eq_or_imp, forall_eq] at hz
   obtain ⟨a1, a2, a3, a4⟩ := hz
   have b1 := within_zero.1 a1
   have b2 := within_zero.1 a2
   have b3 := within_zero.1 a3
   have b4 : f.2.2.2 ≠ 0 := fun e => by rw [if_pos e] at a4; cases a4
   exact ⟨hc, cabS_V hc, secE_zero.1 hs, ⟨b1.1, by omega⟩, b2, b3, b4⟩
  ·cases h
 ·rename_i hc; exact absurd h hc
def tickE (x : Int × Int) : Int := firstS [withinS x.1 0 999999999, withinS x.2 0 999999999, bif decide (x.2 < x.1) then 11 else 0]
def cTicks : Con := { args := [aP], ress := [I], owns := [], pre := fun _ => [], spec := fun (x, _) => (tickE x, ()) }
theorem vc106 : ∀ (x : Int × Int), wpF Tryz.prog G38 (na ()) Tryz.f106 cTicks (x, ()) = (3 ≤ 1000000 ∧ firstS [withinS x.1 0 999999999, withinS x.2 0 999999999, bif decide (x.2 < x.1) then 11 else 0] = tickE x) := by
 intros
 kernel_rfl
theorem wp106 (x : Int × Int) : wpF Tryz.prog G38 (na ()) Tryz.f106 cTicks (x, ()) := by
 refine (vc106 x).mpr ?_
 exact ⟨by omega, rfl⟩
theorem ok106 [Sx.Dr] : Ok Tryz.prog 106 cTicks := ok_of_wp mixed g38 (by kernel_rfl) (by kernel_rfl) na fun xx => wp106 xx.1
abbrev G39 : Gam := (106, cTicks) :: G38
theorem g39 [Sx.Dr] : GamOk Tryz.prog G39 := .cons ok106 g38
theorem vc38 : ∀ (x : Int × Int), wpF Tryz.prog G39 (na ()) Tryz.f38 cTicks (x, ()) = (3 ≤ 1000000 ∧ firstS [withinS x.1 0 999999999, withinS x.2 0 999999999, bif decide (x.2 < x.1) then 11 else 0] = tickE x) := by
 intros
 kernel_rfl
theorem wp38 (x : Int × Int) : wpF Tryz.prog G39 (na ()) Tryz.f38 cTicks (x, ()) := by
 refine (vc38 x).mpr ?_
 exact ⟨by omega, rfl⟩
theorem ok38 [Sx.Dr] : Ok Tryz.prog 38 cTicks := ok_of_wp mixed g39 (by kernel_rfl) (by kernel_rfl) na fun xx => wp38 xx.1
abbrev G40 : Gam := (38, cTicks) :: G39
theorem g40 [Sx.Dr] : GamOk Tryz.prog G40 := .cons ok38 g39
abbrev sRR : Sch := .prod sI (.prod sI (.prod sI sI))
def lowF (c : Cab) (a b : Int × Int) : Int := max 0 ((sumS c.1).2 + a.1 - b.2)
def highF (c : Cab) (a b : Int × Int) : Int := min (2 * (sumS c.1).2) ((sumS c.1).2 + a.2 - b.1)
abbrev RR : Type := Int × Int × Int × Int
def rr (x y : Int × Int) : RR := (x.1, x.2, y.1, y.2)
def locG (c : Cab) (a b : Int × Int) : RR := if highF c a b < lowF c a b then (0, 0, 0, 0) else rr (placeGo 2 c.1 0 (lowF c a b)) (placeGo 2 c.1 0 (highF c a b))
def locGE (c : Cab) (a b : Int × Int) : Int := if highF c a b < lowF c a b then 7 else 0
def locE (c : Cab) (a b : Int × Int) : Int := if firstS [cabS c, tickE a, tickE b] = 0 then locGE c a b else firstS [cabS c, tickE a, tickE b]
def locF (c : Cab) (a b : Int × Int) : RR := if firstS [cabS c, tickE a, tickE b] = 0 then locG c a b else (0, 0, 0, 0)
theorem tickE_V {x : Int × Int} (h : tickE x = 0) : 0 ≤ x.1 ∧ x.1 ≤ x.2 ∧ x.2 ≤ 999999999 := by
 have hz := firstS_zero h
 simp only [List.mem_cons, List.not_mem_nil, or_false, forall_eq_or_imp, forall_eq] at hz
 obtain ⟨a1, a2, a3⟩ := hz
 have b1 := within_zero.1 a1
 have b2 := within_zero.1 a2
 have b3 : ¬ x.2 < x.1 := fun e => by simp [e] at a3
 omega
def cLocate : Con := { args := [aC, aP, aP], ress := [(true, sRR), I], owns := [], pre := fun (c, _) => [c.1.length ≤ 1000000, c.2.1.length ≤ 1000000], spec := fun (c, a, b, _) => (locF c a b, locE c a b, ()) }
theorem loc_bd {c : Cab} {a b : Int × Int} (h : firstS [cabS c, tickE a, tickE b] = 0) : cabS c = 0 ∧ (1 ≤ (sumS c.1).2 ∧ (sumS c.1).2 ≤ 384) ∧ (0 ≤ a.1 ∧ a.1 ≤ a.2 ∧ a.2 ≤ 999999999) ∧ 0 ≤ b.1 ∧ b.1 ≤ b.2 ∧ b.2 ≤ 999999999 := by
 have hz := firstS_zero h
 simp only [List.mem_cons, List.not_mem_nil, or_false, forall_eq_or_imp, forall_eq] at hz
 obtain ⟨a1, a2, a3⟩ := hz
 obtain ⟨v1, v2, v3, _⟩ := cabS_V a1
 have b1 := sumS_bd v3
 exact ⟨a1, by omega, tickE_V a2, tickE_V a3⟩
theorem vc36 : ∀ (c : Cab) (a b : Int × Int), wpF Tryz.prog G40 (na ()) Tryz.f36 cLocate (c, a, b, ()) = (List.length c.1 ≤ 1000000 → List.length c.2.1 ≤ 1000000 → (List.length c.1 ≤ 1000000 ∧ List.length c.2.1 ≤ 1000000 ∧ 3 ≤ 1000000) ∧ ((firstS [cabS (c.1, c.2.1, c.2.2.1, c.2.2.2), tickE (a.1, a.2), tickE (b.1, b.2)] != 0) = true → (0, 0, 0, 0) = locF c a b ∧ firstS [cabS (c.1, c.2.1, c.2.2.1, c.2.2.2), tickE (a.1, a.2), tickE (b.1, b.2)] = locE c a b) ∧ ((firstS [cabS (c.1, c.2.1, c.2.2.1, c.2.2.2), tickE (a.1, a.2), tickE (b.1, b.2)] != 0) = false → cabS (c.1, c.2.1, c.2.2.1, c.2.2.2) = 0 ∧ ((I64 ((sumS c.1).2 + a.1)) ∧ (I64 ((sumS c.1).2 + a.1 - b.2)) ∧ ((-9223372036854775808 : Int) ≤ 2 * (sumS c.1).2 ∧ 2 * (sumS c.1).2 ≤ 9223372036854775807) ∧ (I64 ((sumS c.1).2 + a.2)) ∧ I64 ((sumS c.1).2 + a.2 - b.1)) ∧ (decide (min (2 * (sumS c.1).2) ((sumS c.1).2 + a.2 - b.1) < max 0 ((sumS c.1).2 + a.1 - b.2)) = true → (0, 0, 0, 0) = locF c a b ∧ 7 = locE c a b) ∧ (decide (min (2 * (sumS c.1).2) ((sumS c.1).2 + a.2 - b.1) < max 0 ((sumS c.1).2 + a.1 - b.2)) = false → (cabS (c.1, c.2.1, c.2.2.1, c.2.2.2) = 0 ∧ ((-1000000000000) ≤ max 0 ((sumS c.1).2 + a.1 - b.2) ∧ max 0 ((sumS c.1).2 + a.1 - b.2) ≤ 1000000000000) ∧ cabS (c.1, c.2.1, c.2.2.1, c.2.2.2) = 0 ∧ (-1000000000000) ≤ min (2 * (sumS c.1).2) ((sumS c.1).2 + a.2 - b.1) ∧ min (2 * (sumS c.1).2) ((sumS c.1).2 + a.2 - b.1) ≤ 1000000000000) ∧ ((placeGo 2 c.1 0 (max 0 ((sumS c.1).2 + a.1 - b.2))).1, (placeGo 2 c.1 0 (max 0 ((sumS c.1).2 + a.1 - b.2))).2, (placeGo 2 c.1 0 (min (2 * (sumS c.1).2) ((sumS c.1).2 + a.2 - b.1))).1, (placeGo 2 c.1 0 (min (2 * (sumS c.1).2) ((sumS c.1).2 + a.2 - b.1))).2) = locF c a b ∧ 0 = locE c a b))) := by
 intros
 kernel_rfl
theorem wp36 (c : Cab) (a b : Int × Int) : wpF Tryz.prog G40 (na ()) Tryz.f36 cLocate (c, a, b, ()) := by
 refine (vc36 c a b).mpr ?_
 delta I64
 intro h1 h2
 unfold locF locE
 refine ⟨⟨h1, h2, by omega⟩, fun h => ?_, fun h => ?_⟩
 ·have h : ¬ firstS [cabS c, tickE a, tickE b] = 0 := bne_zero.1 h
  rw [if_neg h, if_neg h]; exact ⟨rfl, rfl⟩
 ·have h : firstS [cabS c, tickE a, tickE b] = 0 := bne_zero'.1 h
  obtain ⟨hc, b1, b2, b3⟩ := loc_bd h
  rw [if_pos h, if_pos h]
  have b1 : 1 ≤ (sumS c.1).2 ∧ (sumS c.1).2 ≤ 384 := b1
  unfold locG locGE lowF highF
  generalize (sumS c.1).2 = L at b1 ⊢
  refine ⟨hc, by omega, fun h' => ?_, fun h' => ?_⟩
  ·have h' := of_decide_eq_true h'
   rw [if_pos h', if_pos h']; exact ⟨rfl, rfl⟩
  ·have h' := of_decide_eq_false h'
   rw [if_neg h', if_neg h']
   exact ⟨⟨hc, by omega, hc, by omega, by omega⟩, rfl, rfl⟩
theorem ok36 [Sx.Dr] : Ok Tryz.prog 36 cLocate := ok_of_wp mixed g40 (by kernel_rfl) (by kernel_rfl) na fun xx => wp36 xx.1 xx.2.1 xx.2.2.1
abbrev G41 : Gam := (36, cLocate) :: G40
theorem g41 [Sx.Dr] : GamOk Tryz.prog G41 := .cons ok36 g40
def cLocateR : Con := { args := [aCR, aP, aP], ress := [(true, sRR), I], owns := [], pre := fun (c, a, b, _) => [firstS [cabS c, tickE a, tickE b] = 0], spec := fun (c, a, b, _) => (locG c a b, locGE c a b, ()) }
theorem vc39 : ∀ (c : Cab) (a b : Int × Int), wpF Tryz.prog G41 (na ()) Tryz.f39 cLocateR (c, a, b, ()) = (firstS [cabS c, tickE a, tickE b] = 0 → cabS (c.1, c.2.1, c.2.2.1, c.2.2.2) = 0 ∧ ((I64 ((sumS c.1).2 + a.1)) ∧ (I64 ((sumS c.1).2 + a.1 - b.2)) ∧ ((-9223372036854775808 : Int) ≤ 2 * (sumS c.1).2 ∧ 2 * (sumS c.1).2 ≤ 9223372036854775807) ∧ (I64 ((sumS c.1).2 + a.2)) ∧ I64 ((sumS c.1).2 + a.2 - b.1)) ∧ (decide (min (2 * (sumS c.1).2) ((sumS c.1).2 + a.2 - b.1) < max 0 ((sumS c.1).2 + a.1 - b.2)) = true → (0, 0, 0, 0) = locG c a b ∧ 7 = locGE c a b) ∧ (decide (min (2 * (sumS c.1).2) ((sumS c.1).2 + a.2 - b.1) < max 0 ((sumS c.1).2 + a.1 - b.2)) = false → (cabS (c.1, c.2.1, c.2.2.1, c.2.2.2) = 0 ∧ ((-1000000000000) ≤ max 0 ((sumS c.1).2 + a.1 - b.2) ∧ max 0 ((sumS c.1).2 + a.1 - b.2) ≤ 1000000000000) ∧ ((0 : Int) < 2 ∧ (2 : Int) ≤ 2) ∧ cabS (c.1, c.2.1, c.2.2.1, c.2.2.2) = 0 ∧ ((-1000000000000) ≤ min (2 * (sumS c.1).2) ((sumS c.1).2 + a.2 - b.1) ∧ min (2 * (sumS c.1).2) ((sumS c.1).2 + a.2 - b.1) ≤ 1000000000000) ∧ (0 : Int) < 2 ∧ (2 : Int) ≤ 2) ∧ ((placeGo 2 c.1 0 (max 0 ((sumS c.1).2 + a.1 - b.2))).1, (placeGo 2 c.1 0 (max 0 ((sumS c.1).2 + a.1 - b.2))).2, (placeGo 2 c.1 0 (min (2 * (sumS c.1).2) ((sumS c.1).2 + a.2 - b.1))).1, (placeGo 2 c.1 0 (min (2 * (sumS c.1).2) ((sumS c.1).2 + a.2 - b.1))).2) = locG c a b ∧ 0 = locGE c a b)) := by
 intros
 kernel_rfl
theorem wp39 (c : Cab) (a b : Int × Int) : wpF Tryz.prog G41 (na ()) Tryz.f39 cLocateR (c, a, b, ()) := by
 refine (vc39 c a b).mpr ?_
 delta I64
 intro h
 obtain ⟨hc, b1, b2, b3⟩ := loc_bd h
 have b1 : 1 ≤ (sumS c.1).2 ∧ (sumS c.1).2 ≤ 384 := b1
 unfold locG locGE lowF highF
 generalize (sumS c.1).2 = L at b1 ⊢
 refine ⟨hc, by omega, fun h' => ?_, fun h' => ?_⟩
 ·have h' := of_decide_eq_true h'
  rw [if_pos h', if_pos h']; exact ⟨rfl, rfl⟩
 ·have h' := of_decide_eq_false h'
  rw [if_neg h', if_neg h']
  exact ⟨⟨hc, by omega, by omega, hc, by omega, by omega⟩, rfl, rfl⟩
theorem ok39 [Sx.Dr] : Ok Tryz.prog 39 cLocateR := ok_of_wp mixed g41 (by kernel_rfl) (by kernel_rfl) na fun xx => wp39 xx.1 xx.2.1 xx.2.2.1
abbrev G42 : Gam := (39, cLocateR) :: G41
theorem g42 [Sx.Dr] : GamOk Tryz.prog G42 := .cons ok39 g41
abbrev Stp : Type := Int × Int × Bool × Int × Int
abbrev sStp : Sch := .prod sI (.prod sI (.prod .bool (.prod sI sI)))
abbrev aW : AK := .val true sStp
abbrev RStp : Bool × Sch := (true, sStp)
def aheadS (w : Stp) (r : Bool) : Int × Int := bif r then (w.2.1 + 1, w.2.1) else (w.2.1 - 1, w.2.1 - 1)
def cAhead : Con := { args := [aW, aB], ress := [I, I], owns := [], pre := fun (w, _) => [-1000 ≤ w.2.1 ∧ w.2.1 ≤ 1000], spec := fun (w, r, _) => ((aheadS w r).1, (aheadS w r).2, ()) }
theorem vc202 : ∀ (w : Stp) (r : Bool), wpF Tryz.prog G42 (na ()) Tryz.f202 cAhead (w, r, ()) = ((-1000) ≤ w.2.1 ∧ w.2.1 ≤ 1000 → (r = true → ((-9223372036854775808) ≤ w.2.1 + 1 ∧ w.2.1 + (1 : Int) ≤ 9223372036854775807) ∧ w.2.1 + 1 = (aheadS w r).1 ∧ w.2.1 = (aheadS w r).2) ∧ (r = false → (((-9223372036854775808) ≤ w.2.1 - 1 ∧ w.2.1 - (1 : Int) ≤ 9223372036854775807) ∧ (-9223372036854775808) ≤ w.2.1 - 1 ∧ w.2.1 - (1 : Int) ≤ 9223372036854775807) ∧ w.2.1 - 1 = (aheadS w r).1 ∧ w.2.1 - 1 = (aheadS w r).2)) := by
 intros
 kernel_rfl
theorem wp202 (w : Stp) (r : Bool) : wpF Tryz.prog G42 (na ()) Tryz.f202 cAhead (w, r, ()) := by
 refine (vc202 w r).mpr ?_
 intro h
 unfold aheadS
 refine ⟨fun e => ?_, fun e => ?_⟩ <;> (subst e; exact ⟨by omega, rfl, rfl⟩)
theorem ok202 [Sx.Dr] : Ok Tryz.prog 202 cAhead := ok_of_wp mixed g42 (by kernel_rfl) (by kernel_rfl) na fun xx => wp202 xx.1 xx.2.1
abbrev G43 : Gam := (202, cAhead) :: G42
theorem g43 [Sx.Dr] : GamOk Tryz.prog G43 := .cons ok202 g42
def hgt (w : Stp) (k : Int) : Int := (w.2.2.2.2 * k).tdiv 8
def sentS (c : Cab) (w : Stp) (r : Bool) (k : Int) : List Stp :=
 if hgt w k = 0 ∨ (aheadS w r).2 < 0 ∨ (c.1.length : Int) ≤ (aheadS w r).2 then [] else [(w.1 + (c.1.getD (aheadS w r).2.toNat (0, 0)).2, (aheadS w r).1, r, w.2.2.2.1 + 1, hgt w k)]
def wvB (w : Stp) : Prop := (0 ≤ w.1 ∧ w.1 ≤ 1000000) ∧ (0 ≤ w.2.1 ∧ w.2.1 ≤ 6) ∧ (0 ≤ w.2.2.2.1 ∧ w.2.2.2.1 ≤ 6) ∧ -17179869184 ≤ w.2.2.2.2 ∧ w.2.2.2.2 ≤ 17179869184
def cSent : Con := { args := [aC, aW, aB, aI], ress := [(false, .list 170 sStp)], owns := [true], pre := fun (c, w, _, k, _) => [cabS c = 0, wvB w, -16 ≤ k ∧ k ≤ 16], spec := fun (c, w, r, k, _) => (sentS c w r k, ()) }
theorem hgt_bd {w : Stp} {k : Int} (h : wvB w) (hk : -16 ≤ k ∧ k ≤ 16) : (-274877906944 ≤ w.2.2.2.2 * k ∧ w.2.2.2.2 * k ≤ 274877906944) ∧ -34359738368 ≤ hgt w k ∧ hgt w k ≤ 34359738368 := by
 obtain ⟨_, _, _, h1, h2⟩ := h
 have a1 : w.2.2.2.2 * k ≤ 274877906944 := by
  rcases Int.le_total 0 k with h | h
  ·have := Int.mul_le_mul h2 hk.2 h (by omega); omega
  ·have := Int.mul_le_mul_of_nonpos_right h1 h; omega
 have a2 : -274877906944 ≤ w.2.2.2.2 * k := by
  rcases Int.le_total 0 k with h | h
  ·have := Int.mul_le_mul_of_nonneg_right h1 h; omega
  ·have := Int.mul_le_mul_of_nonpos_right h2 h; omega
 refine ⟨⟨a2, a1⟩, ?_⟩
 unfold hgt
 generalize w.2.2.2.2 * k = x at a1 a2
 rcases Int.le_total 0 x with h | h
 ·rw [Int.tdiv_eq_ediv_of_nonneg h]; omega
 ·have e : x.tdiv 8 = - ((-x).tdiv 8) := by rw [Int.neg_tdiv, Int.neg_neg]
  rw [e, Int.tdiv_eq_ediv_of_nonneg (by omega)]; omega
def vc173_0 (c : Cab) (w : Stp) (r : Bool) (k : Int) := (aheadS (w.1, w.2.1, w.2.2.1, w.2.2.2.1, w.2.2.2.2) r)
theorem vc173 : ∀ (c : Cab) (w : Stp) (r : Bool) (k : Int), wpF Tryz.prog G43 (na ()) Tryz.f173 cSent (c, w, r, k, ()) = (cabS c = 0 → wvB w → (-16) ≤ k ∧ k ≤ 16 → ((-1000) ≤ w.2.1 ∧ w.2.1 ≤ 1000) ∧ ((I64 (w.2.2.2.2 * k)) ∧ ((8 : Int) = 0 → False) ∧ (-9223372036854775808) ≤ Int.tdiv (w.2.2.2.2 * k) 8 ∧ Int.tdiv (w.2.2.2.2 * k) (8 : Int) ≤ 9223372036854775807) ∧ ((bif bif Int.tdiv (w.2.2.2.2 * k) (8 : Int) == 0 then true else decide ((vc173_0 c w r k).2 < 0) then true else decide ((↑(List.length c.1) : Int) ≤ (vc173_0 c w r k).2)) = true → [] = sentS c w r k) ∧ ((bif bif Int.tdiv (w.2.2.2.2 * k) (8 : Int) == 0 then true else decide ((vc173_0 c w r k).2 < 0) then true else decide ((↑(List.length c.1) : Int) ≤ (vc173_0 c w r k).2)) = false → ((0 ≤ (vc173_0 c w r k).2 ∧ (vc173_0 c w r k).2 < (↑(List.length c.1) : Int)) ∧ (0 ≤ (vc173_0 c w r k).2 ∧ (vc173_0 c w r k).2 < (↑(List.length c.1) : Int)) ∧ (I64 (w.1 + (List.getD c.1 (Int.toNat (vc173_0 c w r k).2) (0, 0)).2)) ∧ (-9223372036854775808) ≤ w.2.2.2.1 + 1 ∧ w.2.2.2.1 + (1 : Int) ≤ 9223372036854775807) ∧ [(w.1 + (List.getD c.1 (Int.toNat (vc173_0 c w r k).2) (0, 0)).2, (vc173_0 c w r k).1, r, w.2.2.2.1 + 1, Int.tdiv (w.2.2.2.2 * k) 8)] = sentS c w r k)) := by
 intros
 kernel_rfl
theorem wp173 (c : Cab) (w : Stp) (r : Bool) (k : Int) : wpF Tryz.prog G43 (na ()) Tryz.f173 cSent (c, w, r, k, ()) := by
 refine (vc173 c w r k).mpr ?_
 delta vc173_0
 delta I64
 intro h hw hk
 have hv : cabV c := cabS_V h
 obtain ⟨⟨m1, m2⟩, n1, n2⟩ := hgt_bd hw hk
 obtain ⟨q1, q2, q3, _⟩ := hw
 unfold sentS hgt at *
 generalize (w.2.2.2.2 * k).tdiv 8 = H at *
 generalize aheadS w r = A at *
 refine ⟨by omega, ⟨by omega, by omega, by omega⟩, fun h1 => ?_, fun h1 => ?_⟩
 ·have h2 : H = 0 ∨ A.2 < 0 ∨ (c.1.length : Int) ≤ A.2 := by simpa [or_assoc] using h1
  rw [if_pos h2]
 ·have h2 : ¬ (H = 0 ∨ A.2 < 0 ∨ (c.1.length : Int) ≤ A.2) := by simpa [or_assoc, and_assoc] using h1
  rw [if_neg h2]
  have b := hv.2.2.1 _ (getD_mem (d := (0, 0)) (l := c.1) (k := A.2.toNat) (by omega))
  exact ⟨⟨by omega, by omega, by omega, by omega⟩, rfl⟩
theorem ok173 [Sx.Dr] : Ok Tryz.prog 173 cSent := ok_of_wp mixed g43 (by kernel_rfl) (by kernel_rfl) na fun xx => wp173 xx.1 xx.2.1 xx.2.2.1 xx.2.2.2.1
abbrev G44 : Gam := (173, cSent) :: G43
theorem g44 [Sx.Dr] : GamOk Tryz.prog G44 := .cons ok173 g43
def growP (_ : Nat → Option Res) (n : Nat) (args : List SV) : Option Out := match args with
 | [.v false [.val (.slice none 0 0)], .v false [.int .i64 k]] => some ⟨[0 ≤ k ∧ k ≤ 1000000], .one (.sl n), [.own 170 sStp []], []⟩
 | _ => none
def cGrow : Con := { args := [], ress := [], owns := [], pre := fun _ => [False], spec := fun _ => (), prim := some growP }
theorem grow_ok [Sx.Dr] : PrimOk Tryz.prog 203 growP := by
 intro N B w0 al τ σ a w ρ M R n d rs args out C hd hrs hop hpre hfresh
 unfold growP at hop
 split at hop
 ·rename_i k
  cases hop
  have hk : 0 ≤ k ∧ k ≤ 1000000 := hpre
  have hn : ¬ al n := fun h => hfresh n h ⟨Nat.le_refl _, by simp⟩
  obtain ⟨m, rfl⟩ := Int.eq_ofNat_of_zero_le hk.1
  have hm : m ≤ 1000000 := by omega
  rcases Nat.eq_zero_or_pos m with h0 | h0
  ·subst h0
   refine ⟨_, Tryz.grow203_none w, fun e w' hp => ?_⟩
   obtain ⟨rfl, rfl⟩ := hp
   have hne : ∀ id, al id → id ≠ n := fun id h e => hn (e ▸ h)
   have en : newEnv ρ n [Value.slice none 0 0] n = .slice none 0 0 := newEnv_new (i := 0) rfl
   have eo : ∀ id, al id → newEnv ρ n [Value.slice none 0 0] id = ρ id := fun id h => newEnv_old (by have := hne id h; simp; omega)
   refine ⟨_, newEnv ρ n [.slice none 0 0], M, rfl, ?_⟩
   refine C.step hd (fun id h => by have := hne id h; simp; omega) (fun id h => newEnv_old (by simpa using h)) (by show _ = Sx.valOf false [newEnv ρ n _ n]; rw [en]; rfl) (fun id hid => ?_) (Sx.Below.refl _ _) (Nat.le_refl _) (fun _ h => h) (fun b h => C.old b (.inl h)) (fun _ _ => rfl) ?_ ?_ ?_ ?_
   ·have : id = n := by simpa [SV.ids, idsL, SC.ids] using hid
    exact .inr ⟨by omega, by simp; omega⟩
   ·intro r x _ _ hx ho b hb
    exact ⟨rfl, (C.notM hx ho hb).1⟩
   ·rintro r x hx (h | h)
    ·have er : r = n := by simp at h; omega
     subst er
     rw [setS_new h] at hx
     simp at hx
     subst hx
     refine ⟨⟨[], rfl, ⟨by simp, .inl ⟨en, rfl⟩⟩, fun g hg => by rw [en] at hg; cases hg⟩, .inr h, fun id hid => by simp [Res.ids] at hid⟩
    ·exact absurd rfl h
   ·intro id h
    have er : id = n := by simp at h; omega
    subst er
    rw [en]; rfl
   ·rintro r r' x1 x2 hne' h1 h2 o1 o2 (h | h) b hb1 hb2
    ·have er : r = n := by simp at h; omega
     subst er
     rw [en] at hb1; cases hb1
    ·exact absurd rfl h
  ·refine ⟨_, Tryz.grow203 m w h0 hm, fun e w' hp => ?_⟩
   obtain ⟨cap, cur, rfl, rfl, hcur, hcap⟩ := hp
   have C0 : Corr Tryz.prog N B w0 al τ σ a w.drew ρ M R := C.world (w' := w.drew) rfl ⟨rfl, rfl, rfl, Nat.le_refl _, fun _ _ => rfl, fun _ => Nat.le_succ _⟩
   obtain ⟨ρ', hC⟩ := C0.allocRes (n := n) (d := d) (x := .own 170 sStp []) (v := .sl n) (u := .slice (some ⟨w.heap.size, 0, none⟩) 0 cap) hd hn (.cells cur 170) rfl rfl (fun ρ' h => h) (fun id h => by simpa [SC.ids] using h) (fun id h => by simp [Res.ids] at h) (fun ρ' h5 _ => by
    refine ⟨[], rfl, ⟨by simp, .inr ⟨w.heap.size, cap, cur, h5, C.base, heap_alloc_new w.drew _, Nat.zero_le _, hcap, hcur, by simp⟩⟩, fun g hg => ?_⟩
    rw [h5] at hg; cases hg
    exact ⟨fun h => Nat.lt_irrefl _ (C.old w.heap.size (.inl h)), fun h => Nat.lt_irrefl _ (C.old w.heap.size (.inr h))⟩)
   exact ⟨_, ρ', M, rfl, hC⟩
 ·cases hop
theorem ok203 [Sx.Dr] : Ok Tryz.prog 203 cGrow := ⟨⟨Tryz.f203, by kernel_rfl, by kernel_rfl, by kernel_rfl⟩, fun z hz => (by cases hz), fun F hF => (by cases hF; exact grow_ok), fun _ x M R w vs _ _ hpre _ => False.elim hpre⟩
abbrev G45 : Gam := (203, cGrow) :: G44
theorem g45 [Sx.Dr] : GamOk Tryz.prog G45 := .cons ok203 g44
theorem drop_cons {α : Type} {l : List α} {k : Nat} {d : α} (h : k < l.length) : l.drop k = l.getD k d :: l.drop (k + 1) := by
 rw [List.drop_eq_getElem_cons h]
 simp [List.getD_eq_getElem?_getD, h]
def smallL (ll : List (List Stp)) : Prop := ll.length ≤ 100 ∧ ∀ l ∈ ll, l.length ≤ 100
def cConcat : Con := { args := [.val false (.list 171 (.list 170 sStp))], ress := [(false, .list 170 sStp)], owns := [true], pre := fun (ll, _) => [smallL ll], spec := fun (ll, _) => (ll.flatten, ()) }
abbrev annConcat (ll : List (List Stp)) : Nat → Option Ann := fun id =>
 if id = 0 then some { X := Nat, σ := fun k => ⟨5, [(0, .one (.sl 0)), (3, .one (.int .i64 (ll.take k).flatten.length)), (9, .one (.sl 0)), (10, .one (.int .i64 ll.length)), (11, .one (.int .i64 k))], [(0, .imm 171 (.list 170 sStp) ll)]⟩, inv := fun k => k ≤ ll.length, mu := fun k => ll.length - k }
 else if id = 2 then some { X := Nat, σ := fun k => ⟨5, [(0, .one (.sl 0)), (6, .one (.sl 4)), (25, .one (.sl 0)), (26, .one (.int .i64 ll.length)), (27, .one (.int .i64 k))], [(0, .imm 171 (.list 170 sStp) ll), (4, .own 170 sStp (ll.take k).flatten)]⟩, inv := fun k => k ≤ ll.length, mu := fun k => ll.length - k }
 else none
theorem flat_take {ll : List (List Stp)} {k : Nat} (h : k < ll.length) : (ll.take (k + 1)).flatten = (ll.take k).flatten ++ ll.getD k [] := by
 rw [← take_snoc (d := []) h]; simp
theorem flat_len {ll : List (List Stp)} (h : smallL ll) {k : Nat} : (ll.take k).flatten.length ≤ 100 * ll.length := by
 have key : ∀ l : List (List Stp), (∀ x ∈ l, x.length ≤ 100) → l.flatten.length ≤ 100 * l.length := by
  intro l
  induction l with
  | nil => simp
  | cons x r ih =>
   intro hx
   have h1 := hx x (by simp)
   have h2 := ih fun y hy => hx y (by simp [hy])
   simp only [List.flatten_cons, List.length_append, List.length_cons]; omega
 have h1 := key (ll.take k) fun x hx => h.2 x (List.mem_of_mem_take hx)
 have : (ll.take k).length ≤ ll.length := by simp; omega
 omega
def vc174_0 (ll : List (List Stp)) (x : Nat) := (↑(List.length (List.flatten (List.take x ll))) : Int)
def vc174_1 (ll : List (List Stp)) (x : Nat) (y : Nat) := ((vc174_0 ll x) + (↑(List.length (List.getD ll x [])) : Int) = (↑(List.length (List.flatten (List.take y ll))) : Int) ∧ (↑(List.length ll) : Int) = (↑(List.length ll) : Int) ∧ (↑x : Int) + (1 : Int) = (↑y : Int) ∧ ll = ll)
def vc174_2 (ll : List (List Stp)) (x : Nat) := ((-9223372036854775808 : Int) ≤ (↑x : Int) + (1 : Int) ∧ (↑x : Int) + (1 : Int) ≤ (9223372036854775807 : Int))
theorem vc174 : ∀ (ll : List (List Stp)), wpF Tryz.prog G45 (annConcat ll) Tryz.f174 cConcat (ll, ()) = (smallL ll → ∃ (x : Nat), (0 = (vc174_0 ll x) ∧ (↑(List.length ll) : Int) = (↑(List.length ll) : Int) ∧ 0 = (↑x : Int) ∧ ll = ll) ∧ x ≤ List.length ll ∧ ∀ (x : Nat), x ≤ List.length ll → (decide ((↑x : Int) < (↑(List.length ll) : Int)) = true → ((0 ≤ (↑x : Int) ∧ (↑x : Int) < (↑(List.length ll) : Int)) ∧ 0 ≤ (↑x : Int) ∧ (↑x : Int) < (↑(List.length ll) : Int)) ∧ (I64 ((vc174_0 ll x) + (↑(List.length (List.getD ll x [])) : Int))) ∧ (decide ((vc174_0 ll x) + (↑(List.length (List.getD ll x [])) : Int) < 0) = true → False ∧ (vc174_2 ll x) ∧ ∃ (y : Nat), (vc174_1 ll x y) ∧ y ≤ List.length ll ∧ List.length ll - y < List.length ll - x) ∧ (decide ((vc174_0 ll x) + (↑(List.length (List.getD ll x [])) : Int) < 0) = false → (vc174_2 ll x) ∧ ∃ (y : Nat), (vc174_1 ll x y) ∧ y ≤ List.length ll ∧ List.length ll - y < List.length ll - x)) ∧ (decide ((↑x : Int) < (↑(List.length ll) : Int)) = false → (0 ≤ (vc174_0 ll x) ∧ (vc174_0 ll x) ≤ 1000000) ∧ ∃ (x : Nat), ((↑(List.length ll) : Int) = (↑(List.length ll) : Int) ∧ 0 = (↑x : Int) ∧ ll = ll ∧ [] = List.flatten (List.take x ll)) ∧ x ≤ List.length ll ∧ ∀ (x : Nat), x ≤ List.length ll → (decide ((↑x : Int) < (↑(List.length ll) : Int)) = true → ((0 ≤ (↑x : Int) ∧ (↑x : Int) < (↑(List.length ll) : Int)) ∧ 0 ≤ (↑x : Int) ∧ (↑x : Int) < (↑(List.length ll) : Int)) ∧ (List.length (List.flatten (List.take x ll)) + List.length (List.getD ll x [])) * 40 ≤ 140737488355328 ∧ (vc174_2 ll x) ∧ ∃ (y : Nat), ((↑(List.length ll) : Int) = (↑(List.length ll) : Int) ∧ (↑x : Int) + 1 = (↑y : Int) ∧ ll = ll ∧ List.flatten (List.take x ll) ++ List.getD ll x [] = List.flatten (List.take y ll)) ∧ y ≤ List.length ll ∧ List.length ll - y < List.length ll - x) ∧ (decide ((↑x : Int) < (↑(List.length ll) : Int)) = false → List.flatten (List.take x ll) = List.flatten ll))) := by
 intros
 kernel_rfl
theorem wp174 (ll : List (List Stp)) : wpF Tryz.prog G45 (annConcat ll) Tryz.f174 cConcat (ll, ()) := by
 refine (vc174 ll).mpr ?_
 delta vc174_0 vc174_1 vc174_2
 delta I64
 intro h
 have hl := h.1
 have gl : ∀ k, k < ll.length → (ll.getD k []).length ≤ 100 := fun k hk => h.2 _ (getD_mem hk)
 refine ⟨(0 : Nat), ⟨by simp, rfl, rfl, rfl⟩, Nat.zero_le _, fun (k : Nat) hk => ⟨fun h1 => ?_, fun h1 => ?_⟩⟩
 ·have hlt : k < ll.length := by simpa using h1
  have h2 := flat_len h (k := k)
  have h3 := gl k hlt
  refine ⟨by omega, by omega, fun h4 => ?_, fun h4 => ⟨by omega, (k + 1 : Nat), ⟨?_, rfl, by simp, rfl⟩, by omega, by omega⟩⟩
  ·have h4 := of_decide_eq_true h4
   omega
  ·rw [flat_take hlt, List.length_append]; simp
 ·have h2 := flat_len h (k := k)
  refine ⟨by omega, (0 : Nat), ⟨rfl, rfl, rfl, by simp⟩, Nat.zero_le _, fun (j : Nat) hj => ⟨fun h1 => ?_, fun h1 => ?_⟩⟩
  ·have hlt : j < ll.length := by simpa using h1
   have h2 := flat_len h (k := j)
   have h3 := gl j hlt
   exact ⟨by omega, by omega, by omega, (j + 1 : Nat), ⟨rfl, by simp, rfl, (flat_take hlt).symm⟩, by omega, by omega⟩
  ·have hlt : ¬ j < ll.length := by simpa using h1
   rw [List.take_of_length_le (by omega)]
theorem ok174 [Sx.Dr] : Ok Tryz.prog 174 cConcat := ok_of_wp mixed g45 (by kernel_rfl) (by kernel_rfl) (fun xx => annConcat xx.1) fun xx => wp174 xx.1
abbrev G46 : Gam := (174, cConcat) :: G45
theorem g46 [Sx.Dr] : GamOk Tryz.prog G46 := .cons ok174 g45
def facW (c : Cab) (w : Stp) : Int := bif w.2.2.1 then c.2.1.getD (w.2.1 - 1).toNat 0 else 0 - c.2.1.getD (w.2.1 - 1).toNat 0
def childS (c : Cab) (w : Stp) : List Stp :=
 if w.2.2.2.1 = 6 then [] else if w.2.1 = 0 then sentS c w true c.2.2.1 else if w.2.1 = c.1.length then sentS c w false c.2.2.2 else
 sentS c w w.2.2.1 (8 + facW c w) ++ sentS c w (!w.2.2.1) (facW c w)
def wvC (c : Cab) (w : Stp) : Prop := wvB w ∧ w.2.1 ≤ c.1.length
def cChild : Con := { args := [aC, aW], ress := [(false, .list 170 sStp)], owns := [true], pre := fun (c, w, _) => [cabS c = 0, wvC c w], spec := fun (c, w, _) => (childS c w, ()) }
theorem sent_len (c : Cab) (w : Stp) (r : Bool) (k : Int) : (sentS c w r k).length ≤ 1 := by
 unfold sentS; split <;> simp
theorem sent_small (c : Cab) (w : Stp) (r r' : Bool) (k k' : Int) : smallL [sentS c w r k, sentS c w r' k'] := by
 refine ⟨by simp, fun l hl => ?_⟩
 have h1 := sent_len c w r k
 have h2 := sent_len c w r' k'
 simp only [List.mem_cons, List.not_mem_nil, or_false] at hl
 rcases hl with rfl | rfl <;> omega
theorem joint_ok {c : Cab} {w : Stp} (hv : cabV c) (hw : wvC c w) (h0 : ¬ w.2.1 = 0) (h1 : ¬ w.2.1 = c.1.length) : (0 ≤ w.2.1 - 1 ∧ w.2.1 - 1 < c.2.1.length) ∧ -8 ≤ c.2.1.getD (w.2.1 - 1).toNat 0 ∧ c.2.1.getD (w.2.1 - 1).toNat 0 ≤ 8 := by
 obtain ⟨⟨_, hb, _⟩, hn⟩ := hw
 obtain ⟨_, _, _, v4, v5, _⟩ := hv
 have b : 0 ≤ w.2.1 - 1 ∧ w.2.1 - 1 < c.2.1.length := by omega
 exact ⟨b, v5 _ (getD_mem (by omega))⟩
def vc143_0 (c : Cab) (w : Stp) := (w.1, w.2.1, w.2.2.1, w.2.2.2.1, w.2.2.2.2)
def vc143_1 (c : Cab) (w : Stp) := ((0 : Int) - List.getD c.2.1 (Int.toNat (w.2.1 - (1 : Int))) (0 : Int))
def vc143_2 (c : Cab) (w : Stp) := (c.1, c.2.1, c.2.2.1, c.2.2.2)
theorem vc143 : ∀ (c : Cab) (w : Stp), wpF Tryz.prog G46 (na ()) Tryz.f143 cChild (c, w, ()) = (cabS c = 0 → wvC c w → ((w.2.2.2.1 == 6) = true → [] = childS c w) ∧ ((w.2.2.2.1 == 6) = false → ((w.2.1 == 0) = true → (cabS (vc143_2 c w) = 0 ∧ wvB (vc143_0 c w) ∧ (-16) ≤ c.2.2.1 ∧ c.2.2.1 ≤ 16) ∧ sentS (vc143_2 c w) (vc143_0 c w) true c.2.2.1 = childS c w) ∧ ((w.2.1 == 0) = false → ((w.2.1 == (↑(List.length c.1) : Int)) = true → (cabS (vc143_2 c w) = 0 ∧ wvB (vc143_0 c w) ∧ (-16) ≤ c.2.2.2 ∧ c.2.2.2 ≤ 16) ∧ sentS (vc143_2 c w) (vc143_0 c w) false c.2.2.2 = childS c w) ∧ ((w.2.1 == (↑(List.length c.1) : Int)) = false → (((-9223372036854775808) ≤ w.2.1 - 1 ∧ w.2.1 - (1 : Int) ≤ 9223372036854775807) ∧ (0 ≤ w.2.1 - 1 ∧ w.2.1 - 1 < (↑(List.length c.2.1) : Int)) ∧ 0 ≤ w.2.1 - 1 ∧ w.2.1 - 1 < (↑(List.length c.2.1) : Int)) ∧ ((!w.2.2.1) = true → ((-9223372036854775808 : Int) ≤ 0 - List.getD c.2.1 (Int.toNat (w.2.1 - 1)) 0 ∧ 0 - List.getD c.2.1 (Int.toNat (w.2.1 - 1)) (0 : Int) ≤ 9223372036854775807) ∧ (((-9223372036854775808 : Int) ≤ 8 + (vc143_1 c w) ∧ 8 + (vc143_1 c w) ≤ 9223372036854775807) ∧ cabS (vc143_2 c w) = 0 ∧ wvB (vc143_0 c w) ∧ ((-16 : Int) ≤ 8 + (vc143_1 c w) ∧ 8 + (vc143_1 c w) ≤ 16) ∧ cabS (vc143_2 c w) = 0 ∧ wvB (vc143_0 c w) ∧ ((-16 : Int) ≤ 0 - List.getD c.2.1 (Int.toNat (w.2.1 - 1)) 0 ∧ 0 - List.getD c.2.1 (Int.toNat (w.2.1 - 1)) (0 : Int) ≤ 16) ∧ smallL [sentS (vc143_2 c w) (vc143_0 c w) w.2.2.1 (8 + (vc143_1 c w)), sentS (vc143_2 c w) (vc143_0 c w) (!w.2.2.1) (vc143_1 c w)]) ∧ sentS (vc143_2 c w) (vc143_0 c w) w.2.2.1 (8 + (vc143_1 c w)) ++ List.flatten [sentS (vc143_2 c w) (vc143_0 c w) (!w.2.2.1) (vc143_1 c w)] = childS c w) ∧ ((!w.2.2.1) = false → (((-9223372036854775808 : Int) ≤ 8 + List.getD c.2.1 (Int.toNat (w.2.1 - 1)) 0 ∧ 8 + List.getD c.2.1 (Int.toNat (w.2.1 - 1)) (0 : Int) ≤ 9223372036854775807) ∧ cabS (vc143_2 c w) = 0 ∧ wvB (vc143_0 c w) ∧ ((-16 : Int) ≤ 8 + List.getD c.2.1 (Int.toNat (w.2.1 - 1)) 0 ∧ 8 + List.getD c.2.1 (Int.toNat (w.2.1 - 1)) (0 : Int) ≤ 16) ∧ cabS (vc143_2 c w) = 0 ∧ wvB (vc143_0 c w) ∧ ((-16) ≤ List.getD c.2.1 (Int.toNat (w.2.1 - 1)) 0 ∧ List.getD c.2.1 (Int.toNat (w.2.1 - 1)) (0 : Int) ≤ 16) ∧ smallL [sentS (vc143_2 c w) (vc143_0 c w) w.2.2.1 (8 + List.getD c.2.1 (Int.toNat (w.2.1 - 1)) 0), sentS (vc143_2 c w) (vc143_0 c w) (!w.2.2.1) (List.getD c.2.1 (Int.toNat (w.2.1 - 1)) 0)]) ∧ sentS (vc143_2 c w) (vc143_0 c w) w.2.2.1 (8 + List.getD c.2.1 (Int.toNat (w.2.1 - 1)) 0) ++ List.flatten [sentS (vc143_2 c w) (vc143_0 c w) (!w.2.2.1) (List.getD c.2.1 (Int.toNat (w.2.1 - 1)) 0)] = childS c w))))) := by
 intros
 kernel_rfl
theorem wp143 (c : Cab) (w : Stp) : wpF Tryz.prog G46 (na ()) Tryz.f143 cChild (c, w, ()) := by
 refine (vc143 c w).mpr ?_
 delta vc143_0 vc143_1 vc143_2
 intro h hw
 have hv : cabV c := cabS_V h
 have hb := hw.1
 obtain ⟨_, _, _, v4, v5, v6, v7⟩ := id hv
 unfold childS
 refine ⟨fun e => ?_, fun e => ⟨fun e1 => ?_, fun e1 => ⟨fun e2 => ?_, fun e2 => ?_⟩⟩⟩
 ·rw [if_pos (by simpa using e)]
 ·rw [if_neg (by simpa using e), if_pos (by simpa using e1)]
  exact ⟨⟨h, hb, by omega, by omega⟩, rfl⟩
 ·rw [if_neg (by simpa using e), if_neg (by simpa using e1), if_pos (by simpa using e2)]
  exact ⟨⟨h, hb, by omega, by omega⟩, rfl⟩
 ·rw [if_neg (by simpa using e), if_neg (by simpa using e1), if_neg (by simpa using e2)]
  obtain ⟨j1, j2⟩ := joint_ok hv hw (by simpa using e1) (by simpa using e2)
  refine ⟨⟨by omega, j1, j1⟩, fun e3 => ?_, fun e3 => ?_⟩
  ·have e3 : w.2.2.1 = false := by simpa using e3
   have ef : facW c w = 0 - c.2.1.getD (w.2.1 - 1).toNat 0 := by unfold facW; rw [e3]; rfl
   rw [ef]
   refine ⟨by omega, ⟨by omega, h, hb, by omega, h, hb, by omega, sent_small _ _ _ _ _ _⟩, ?_⟩
   simp only [List.flatten_cons, List.flatten_nil, List.append_nil]
  ·have e3 : w.2.2.1 = true := by simpa using e3
   have ef : facW c w = c.2.1.getD (w.2.1 - 1).toNat 0 := by unfold facW; rw [e3]; rfl
   rw [ef]
   refine ⟨⟨by omega, h, hb, by omega, h, hb, by omega, sent_small _ _ _ _ _ _⟩, ?_⟩
   simp only [List.flatten_cons, List.flatten_nil, List.append_nil]
theorem ok143 [Sx.Dr] : Ok Tryz.prog 143 cChild := ok_of_wp mixed g46 (by kernel_rfl) (by kernel_rfl) na fun xx => wp143 xx.1 xx.2.1
abbrev G47 : Gam := (143, cChild) :: G46
theorem g47 [Sx.Dr] : GamOk Tryz.prog G47 := .cons ok143 g46
def waveS (c : Cab) (t b : Int) (r : Bool) (hp ht : Int) : Stp := bif r then (t + (c.1.getD b.toNat (0, 0)).2, b + 1, true, hp, ht) else (t + (c.1.getD (b - 1).toNat (0, 0)).2, b - 1, false, hp, ht)
def waveOk (c : Cab) (b : Int) (r : Bool) : Prop := bif r then 0 ≤ b ∧ b < c.1.length else 1 ≤ b ∧ b ≤ c.1.length
def cWaveR : Con := { args := [aCR, aI, aI, aB, aI, aI], ress := [RStp], owns := [], pre := fun (c, t, b, r, hp, ht, _) => [cabS c = 0, 0 ≤ t ∧ t ≤ 1000000, waveOk c b r], spec := fun (c, t, b, r, hp, ht, _) => (waveS c t b r hp ht, ()) }
theorem vc152 : ∀ (c : Cab) (t b : Int) (r : Bool) (hp ht : Int), wpF Tryz.prog G47 (na ()) Tryz.f152 cWaveR (c, t, b, r, hp, ht, ()) = (cabS c = 0 → 0 ≤ t ∧ t ≤ 1000000 → waveOk c b r → (r = true → ((0 ≤ b ∧ b < (↑(List.length c.1) : Int)) ∧ (0 ≤ b ∧ b < (↑(List.length c.1) : Int)) ∧ (I64 (t + (List.getD c.1 (Int.toNat b) (0, 0)).2)) ∧ (-9223372036854775808) ≤ b + 1 ∧ b + (1 : Int) ≤ 9223372036854775807) ∧ (t + (List.getD c.1 (Int.toNat b) (0, 0)).2, b + 1, true, hp, ht) = waveS c t b r hp ht) ∧ (r = false → (((-9223372036854775808) ≤ b - 1 ∧ b - (1 : Int) ≤ 9223372036854775807) ∧ (0 ≤ b - 1 ∧ b - 1 < (↑(List.length c.1) : Int)) ∧ (0 ≤ b - 1 ∧ b - 1 < (↑(List.length c.1) : Int)) ∧ (I64 (t + (List.getD c.1 (Int.toNat (b - 1)) (0, 0)).2)) ∧ (-9223372036854775808) ≤ b - 1 ∧ b - (1 : Int) ≤ 9223372036854775807) ∧ (t + (List.getD c.1 (Int.toNat (b - 1)) (0, 0)).2, b - 1, false, hp, ht) = waveS c t b r hp ht)) := by
 intros
 kernel_rfl
theorem wp152 (c : Cab) (t b : Int) (r : Bool) (hp ht : Int) : wpF Tryz.prog G47 (na ()) Tryz.f152 cWaveR (c, t, b, r, hp, ht, ()) := by
 refine (vc152 c t b r hp ht).mpr ?_
 delta I64
 intro h h1 h2
 have hv : cabV c := cabS_V h
 obtain ⟨_, v2, v3, _⟩ := id hv
 unfold waveS
 refine ⟨fun e => ?_, fun e => ?_⟩
 ·subst e
  have h2 : 0 ≤ b ∧ b < c.1.length := h2
  have q := v3 _ (getD_mem (d := (0, 0)) (l := c.1) (k := b.toNat) (by omega))
  exact ⟨⟨h2, h2, by omega, by omega⟩, rfl⟩
 ·subst e
  have h2 : 1 ≤ b ∧ b ≤ c.1.length := h2
  have q := v3 _ (getD_mem (d := (0, 0)) (l := c.1) (k := (b - 1).toNat) (by omega))
  exact ⟨⟨by omega, by omega, by omega, by omega, by omega⟩, rfl⟩
theorem ok152 [Sx.Dr] : Ok Tryz.prog 152 cWaveR := ok_of_wp mixed g47 (by kernel_rfl) (by kernel_rfl) na fun xx => wp152 xx.1 xx.2.1 xx.2.2.1 xx.2.2.2.1 xx.2.2.2.2.1 xx.2.2.2.2.2.1
abbrev G48 : Gam := (152, cWaveR) :: G47
theorem g48 [Sx.Dr] : GamOk Tryz.prog G48 := .cons ok152 g47
def beforeS (a b : Stp) : Bool := if a.1 ≠ b.1 then decide (a.1 < b.1) else if a.2.1 ≠ b.2.1 then decide (a.2.1 < b.2.1) else if a.2.2.1 ≠ b.2.2.1 then b.2.2.1 else if a.2.2.2.1 ≠ b.2.2.2.1 then decide (a.2.2.2.1 < b.2.2.2.1) else decide (a.2.2.2.2 < b.2.2.2.2)
def cBefore : Con := { args := [aW, aW], ress := [Bo], owns := [], pre := fun _ => [], spec := fun (a, b, _) => (beforeS a b, ()) }
theorem vc151 : ∀ (a b : Stp), wpF Tryz.prog G48 (na ()) Tryz.f151 cBefore (a, b, ()) = (((a.1 != b.1) = true → decide (a.1 < b.1) = beforeS a b) ∧ ((a.1 != b.1) = false → ((a.2.1 != b.2.1) = true → decide (a.2.1 < b.2.1) = beforeS a b) ∧ ((a.2.1 != b.2.1) = false → ((!a.2.2.1 == b.2.2.1) = true → b.2.2.1 = beforeS a b) ∧ ((!a.2.2.1 == b.2.2.1) = false → ((a.2.2.2.1 != b.2.2.2.1) = true → decide (a.2.2.2.1 < b.2.2.2.1) = beforeS a b) ∧ ((a.2.2.2.1 != b.2.2.2.1) = false → decide (a.2.2.2.2 < b.2.2.2.2) = beforeS a b))))) := by
 intros
 kernel_rfl
theorem wp151 (a b : Stp) : wpF Tryz.prog G48 (na ()) Tryz.f151 cBefore (a, b, ()) := by
 refine (vc151 a b).mpr ?_
 unfold beforeS
 refine ⟨fun e => ?_, fun e => ⟨fun e1 => ?_, fun e1 => ⟨fun e2 => ?_, fun e2 => ⟨fun e3 => ?_, fun e3 => ?_⟩⟩⟩⟩
 ·rw [if_pos (by simpa using e)]
 ·rw [if_neg (by simpa using e), if_pos (by simpa using e1)]
 ·rw [if_neg (by simpa using e), if_neg (by simpa using e1), if_pos (by simpa using e2)]
 ·rw [if_neg (by simpa using e), if_neg (by simpa using e1), if_neg (by simpa using e2), if_pos (by simpa using e3)]
 ·rw [if_neg (by simpa using e), if_neg (by simpa using e1), if_neg (by simpa using e2), if_neg (by simpa using e3)]
theorem ok151 [Sx.Dr] : Ok Tryz.prog 151 cBefore := ok_of_wp mixed g48 (by kernel_rfl) (by kernel_rfl) na fun xx => wp151 xx.1 xx.2.1
abbrev G49 : Gam := (151, cBefore) :: G48
theorem g49 [Sx.Dr] : GamOk Tryz.prog G49 := .cons ok151 g48
def insS (x : Stp) : List Stp → List Stp
 | [] => [x]
 | y :: r => if beforeS x y then x :: y :: r else y :: insS x r
def atS (x : Stp) : List Stp → Nat
 | [] => 0
 | y :: r => if beforeS x y then 0 else atS x r + 1
theorem insS_at (x : Stp) : ∀ l : List Stp, insS x l = l.take (atS x l) ++ x :: l.drop (atS x l)
 | [] => rfl
 | y :: r => by
  simp only [insS, atS]
  split
  ·simp
  ·rw [insS_at x r]; simp
theorem atS_le (x : Stp) : ∀ l : List Stp, atS x l ≤ l.length
 | [] => Nat.le_refl _
 | y :: r => by
  have := atS_le x r
  simp only [atS]; split <;> simp; omega
theorem atS_lt (x : Stp) : ∀ (l : List Stp) (k : Nat), k ≤ atS x l → ((k < l.length ∧ beforeS x (l.getD k (0, 0, false, 0, 0)) = false) ↔ k < atS x l)
 | [], k, h => by simp [atS]
 | y :: r, 0, _ => by
  simp only [atS, List.getD_cons_zero]
  split <;> simp_all
 | y :: r, k + 1, h => by
  simp only [atS] at h ⊢
  split at h
  ·omega
  ·rename_i hb
   rw [if_neg hb]
   have := atS_lt x r k (by omega)
   simp only [List.getD_cons_succ, List.length_cons, Nat.add_lt_add_iff_right]
   exact this
def cInsert : Con := { args := [.val false (.list 186 sStp), aW], ress := [(false, .list 186 sStp)], owns := [true], pre := fun (l, _) => [l.length ≤ 100000], spec := fun (l, x, _) => (insS x l, ()) }
abbrev annIns (l : List Stp) (x : Stp) : Ann := { X := Nat, σ := fun k => ⟨5, [(0, .one (.sl 0)), (3, .one (.ptr 1 0)), (5, .one (.int .i64 k))], [(0, .imm 186 sStp l), (1, .box 186 [.int .i64 x.1, .int .i64 x.2.1, .bool x.2.2.1, .int .i64 x.2.2.2.1, .int .i64 x.2.2.2.2])]⟩, inv := fun k => k ≤ atS x l, mu := fun k => l.length - k }
def vc97_0 (l : List Stp) (x : Stp) (x_2 : Nat) := (bif decide ((↑x_2 : Int) < (↑(List.length l) : Int)) then !beforeS (x.1, x.2.1, x.2.2.1, x.2.2.2.1, x.2.2.2.2) ((List.getD l x_2 ((0 : Int), (0 : Int), false, (0 : Int), (0 : Int))).1, (List.getD l x_2 ((0 : Int), (0 : Int), false, (0 : Int), (0 : Int))).2.1, (List.getD l x_2 ((0 : Int), (0 : Int), false, (0 : Int), (0 : Int))).2.2.1, (List.getD l x_2 ((0 : Int), (0 : Int), false, (0 : Int), (0 : Int))).2.2.2.1, (List.getD l x_2 ((0 : Int), (0 : Int), false, (0 : Int), (0 : Int))).2.2.2.2) else false)
theorem vc97 : ∀ (l : List Stp) (x : Stp), wpF Tryz.prog G49 (ann0 (annIns l x)) Tryz.f97 cInsert (l, x, ()) = (List.length l ≤ 100000 → ∃ (x_1 : Nat), (0 = (↑x_1 : Int) ∧ l = l ∧ x.1 = x.1 ∧ x.2.1 = x.2.1 ∧ x.2.2.1 = x.2.2.1 ∧ x.2.2.2.1 = x.2.2.2.1 ∧ x.2.2.2.2 = x.2.2.2.2) ∧ x_1 ≤ atS x l ∧ ∀ (x_2 : Nat), x_2 ≤ atS x l → ((decide ((↑x_2 : Int) < (↑(List.length l) : Int)) = true → 0 ≤ (↑x_2 : Int) ∧ (↑x_2 : Int) < (↑(List.length l) : Int)) ∧ (decide ((↑x_2 : Int) < (↑(List.length l) : Int)) = true → 0 ≤ (↑x_2 : Int) ∧ (↑x_2 : Int) < (↑(List.length l) : Int))) ∧ ((vc97_0 l x x_2) = true → ((-9223372036854775808) ≤ (↑x_2 : Int) + 1 ∧ (↑x_2 : Int) + (1 : Int) ≤ 9223372036854775807) ∧ ∃ (y : Nat), ((↑x_2 : Int) + 1 = (↑y : Int) ∧ l = l ∧ x.1 = x.1 ∧ x.2.1 = x.2.1 ∧ x.2.2.1 = x.2.2.1 ∧ x.2.2.2.1 = x.2.2.2.1 ∧ x.2.2.2.2 = x.2.2.2.2) ∧ y ≤ atS x l ∧ List.length l - y < List.length l - x_2) ∧ ((vc97_0 l x x_2) = false → (((0 : Int) ≤ 0 ∧ 0 ≤ (↑x_2 : Int) ∧ (↑x_2 : Int) ≤ (↑(List.length l) : Int)) ∧ List.length (List.take x_2 l) * 40 ≤ 140737488355328) ∧ (List.length (List.take x_2 l) + 1) * 40 ≤ 140737488355328 ∧ ((0 ≤ (↑x_2 : Int) ∧ (↑x_2 : Int) ≤ (↑(List.length l) : Int) ∧ (↑(List.length l) : Int) ≤ (↑(List.length l) : Int)) ∧ (List.length (List.take x_2 l ++ [(x.1, x.2.1, x.2.2.1, x.2.2.2.1, x.2.2.2.2)]) + List.length (List.drop x_2 (List.take (List.length l) l))) * 40 ≤ 140737488355328) ∧ List.take x_2 l ++ [(x.1, x.2.1, x.2.2.1, x.2.2.2.1, x.2.2.2.2)] ++ List.drop x_2 (List.take (List.length l) l) = insS x l)) := by
 intros
 kernel_rfl
theorem wp97 (l : List Stp) (x : Stp) : wpF Tryz.prog G49 (ann0 (annIns l x)) Tryz.f97 cInsert (l, x, ()) := by
 refine (vc97 l x).mpr ?_
 delta vc97_0
 intro h
 refine ⟨(0 : Nat), ⟨rfl, rfl, rfl, rfl, rfl, rfl, rfl⟩, Nat.zero_le _, fun (k : Nat) hk => ⟨⟨fun e => by have := of_decide_eq_true e; omega, fun e => by have := of_decide_eq_true e; omega⟩, fun h1 => ?_, fun h1 => ?_⟩⟩
 ·have h1 : (bif decide ((k : Int) < l.length) then !beforeS x (l.getD k (0, 0, false, 0, 0)) else false) = true := h1
  have hlt : k < atS x l := (atS_lt x l k hk).1 (by
   cases h2 : decide ((k : Int) < l.length) with
   | false => rw [h2] at h1; cases h1
   | true => rw [h2] at h1; have := of_decide_eq_true h2; exact ⟨by omega, by simpa using h1⟩)
  have := atS_le x l
  exact ⟨by omega, (k + 1 : Nat), ⟨by simp, rfl, rfl, rfl, rfl, rfl, rfl⟩, hlt, by omega⟩
 ·have h1 : (bif decide ((k : Int) < l.length) then !beforeS x (l.getD k (0, 0, false, 0, 0)) else false) = false := h1
  have hge : ¬ k < atS x l := fun h => by
   obtain ⟨q1, q2⟩ := (atS_lt x l k hk).2 h
   rw [q2, decide_eq_true (by omega)] at h1
   cases h1
  have hle := atS_le x l
  have hk : k = atS x l := by omega
  have e1 : (l.take k).length = k := by simp; omega
  refine ⟨⟨by omega, by omega⟩, by omega, ⟨by omega, ?_⟩, ?_⟩
  ·simp only [List.length_append, List.length_drop, List.length_take, List.length_singleton]; omega
  ·rw [insS_at x l, ← hk, List.take_length, List.append_assoc]; rfl
theorem ok97 [Sx.Dr] : Ok Tryz.prog 97 cInsert := ok_of_wp mixed g49 (by kernel_rfl) (by kernel_rfl) (fun xx => ann0 (annIns xx.1 xx.2.1)) fun xx => wp97 xx.1 xx.2.1
abbrev G50 : Gam := (97, cInsert) :: G49
theorem g50 [Sx.Dr] : GamOk Tryz.prog G50 := .cons ok97 g49
def nextA (c : Cab) (w : Stp) : List Stp := if w.2.1 = 0 then [waveS c w.1 0 true (w.2.2.2.1 + 1) (hgt w c.2.2.1)] else if w.2.1 = c.1.length then [waveS c w.1 w.2.1 false (w.2.2.2.1 + 1) (hgt w c.2.2.2)] else
 [waveS c w.1 w.2.1 w.2.2.1 (w.2.2.2.1 + 1) (hgt w (8 + facW c w)), waveS c w.1 w.2.1 (!w.2.2.1) (w.2.2.2.1 + 1) (hgt w (facW c w))]
def nzS (l : List Stp) : List Stp := l.filter fun x => x.2.2.2.2 != 0
def cNextR : Con := { args := [aCR, aW], ress := [(false, .list 186 sStp)], owns := [true], pre := fun (c, w, _) => [cabS c = 0, wvC c w], spec := fun (c, w, _) => (childS c w, ()) }
abbrev annNext (c : Cab) (w : Stp) : Ann := { X := Nat, σ := fun k => ⟨9, [(5, .one (.sl 4)), (7, .one (.sl 5)), (8, .one (.int .i64 k))], [(4, .own 186 sStp (nextA c w)), (5, .own 186 sStp (nzS ((nextA c w).take k)))]⟩, inv := fun k => k ≤ (nextA c w).length ∧ w.2.2.2.1 ≠ 6, mu := fun k => (nextA c w).length - k }
theorem nzS_take {l : List Stp} {k : Nat} (h : k < l.length) : nzS (l.take (k + 1)) = if (l.getD k (0, 0, false, 0, 0)).2.2.2.2 = 0 then nzS (l.take k) else nzS (l.take k) ++ [l.getD k (0, 0, false, 0, 0)] := by
 rw [← take_snoc (d := (0, 0, false, 0, 0)) h]
 unfold nzS
 rw [List.filter_append]
 split <;> simp_all
theorem nzS_len (l : List Stp) (k : Nat) : (nzS (l.take k)).length ≤ l.length := by
 have h1 := List.length_filter_le (fun x : Stp => x.2.2.2.2 != 0) (l.take k)
 have h2 : (l.take k).length ≤ l.length := by simp; omega
 unfold nzS; omega
theorem nextA_len (c : Cab) (w : Stp) : (nextA c w).length ≤ 2 := by
 unfold nextA; repeat' split
 all_goals simp
theorem sent_wave {c : Cab} {w : Stp} {r : Bool} {k : Int} (h : waveOk c w.2.1 r) : sentS c w r k = nzS [waveS c w.1 w.2.1 r (w.2.2.2.1 + 1) (hgt w k)] := by
 unfold sentS nzS waveS aheadS
 cases r
 ·have h : 1 ≤ w.2.1 ∧ w.2.1 ≤ c.1.length := h
  by_cases h0 : hgt w k = 0
  ·rw [if_pos (.inl h0)]; simp [h0]
  ·rw [if_neg]
   ·simp [h0]
   ·simp only [cond_false]; omega
 ·have h : 0 ≤ w.2.1 ∧ w.2.1 < c.1.length := h
  by_cases h0 : hgt w k = 0
  ·rw [if_pos (.inl h0)]; simp [h0]
  ·rw [if_neg]
   ·simp [h0]
   ·simp only [cond_true]; omega
theorem waveOk_mid {c : Cab} {w : Stp} (hw : wvC c w) (h0 : ¬ w.2.1 = 0) (h1 : ¬ w.2.1 = c.1.length) (r : Bool) : waveOk c w.2.1 r := by
 obtain ⟨⟨_, hb, _⟩, hn⟩ := hw
 cases r
 ·exact (show 1 ≤ w.2.1 ∧ w.2.1 ≤ c.1.length by omega)
 ·exact (show 0 ≤ w.2.1 ∧ w.2.1 < c.1.length by omega)
theorem next_child {c : Cab} {w : Stp} (hv : cabV c) (hw : wvC c w) (h6 : ¬ w.2.2.2.1 = 6) : nzS (nextA c w) = childS c w := by
 unfold nextA childS
 rw [if_neg h6]
 split
 ·rename_i h0
  rw [sent_wave (show waveOk c w.2.1 true from (show 0 ≤ w.2.1 ∧ w.2.1 < c.1.length by have := hv.1; omega)), h0]
 ·rename_i h0
  split
  ·rename_i h1
   rw [sent_wave (show waveOk c w.2.1 false from (show 1 ≤ w.2.1 ∧ w.2.1 ≤ c.1.length by have := hv.1; omega))]
  ·rename_i h1
   rw [sent_wave (waveOk_mid hw h0 h1 _), sent_wave (waveOk_mid hw h0 h1 _)]
   unfold nzS
   rw [← List.filter_append]; rfl
def vc98_0 (c : Cab) (w : Stp) (x : Nat) (y : Nat) := ((↑x : Int) + (1 : Int) = (↑y : Int) ∧ nextA c w = nextA c w ∧ nzS (List.take x (nextA c w)) ++ [((List.getD (nextA c w) x ((0 : Int), (0 : Int), false, (0 : Int), (0 : Int))).1, (List.getD (nextA c w) x ((0 : Int), (0 : Int), false, (0 : Int), (0 : Int))).2.1, (List.getD (nextA c w) x ((0 : Int), (0 : Int), false, (0 : Int), (0 : Int))).2.2.1, (List.getD (nextA c w) x ((0 : Int), (0 : Int), false, (0 : Int), (0 : Int))).2.2.2.1, (List.getD (nextA c w) x ((0 : Int), (0 : Int), false, (0 : Int), (0 : Int))).2.2.2.2)] = nzS (List.take y (nextA c w)))
def vc98_1 (c : Cab) (w : Stp) := ((0 : Int) - List.getD c.2.1 (Int.toNat (w.2.1 - (1 : Int))) (0 : Int))
def vc98_2 (c : Cab) (w : Stp) := (c.1, c.2.1, c.2.2.1, c.2.2.2)
def vc98_3 (c : Cab) (w : Stp) := (waveS (vc98_2 c w) w.1 w.2.1 w.2.2.1 (w.2.2.2.1 + (1 : Int)) (Int.tdiv (w.2.2.2.2 * ((8 : Int) + List.getD c.2.1 (Int.toNat (w.2.1 - (1 : Int))) (0 : Int))) (8 : Int)))
def vc98_4 (c : Cab) (w : Stp) := (waveS (vc98_2 c w) w.1 w.2.1 (!w.2.2.1) (w.2.2.2.1 + (1 : Int)) (Int.tdiv (w.2.2.2.2 * List.getD c.2.1 (Int.toNat (w.2.1 - (1 : Int))) (0 : Int)) (8 : Int)))
def vc98_5 (c : Cab) (w : Stp) (x : Nat) := (((0 : Int) ≤ (↑x : Int) ∧ (↑x : Int) < (↑(List.length (nextA c w)) : Int)) ∧ ((0 : Int) ≤ (↑x : Int) ∧ (↑x : Int) < (↑(List.length (nextA c w)) : Int)) ∧ (List.length (nzS (List.take x (nextA c w))) + (1 : Nat)) * (40 : Nat) ≤ (140737488355328 : Nat))
def vc98_6 (c : Cab) (w : Stp) (x : Nat) := ((-9223372036854775808 : Int) ≤ (↑x : Int) + (1 : Int) ∧ (↑x : Int) + (1 : Int) ≤ (9223372036854775807 : Int))
def vc98_7 (c : Cab) (w : Stp) (x : Nat) := ((List.getD (nextA c w) x ((0 : Int), (0 : Int), false, (0 : Int), (0 : Int))).2.2.2.2 != (0 : Int))
def vc98_8 (c : Cab) (w : Stp) := (waveS (vc98_2 c w) w.1 w.2.1 w.2.2.1 (w.2.2.2.1 + (1 : Int)) (Int.tdiv (w.2.2.2.2 * ((8 : Int) + (vc98_1 c w))) (8 : Int)))
def vc98_9 (c : Cab) (w : Stp) := ((-9223372036854775808 : Int) ≤ w.2.2.2.1 + (1 : Int) ∧ w.2.2.2.1 + (1 : Int) ≤ (9223372036854775807 : Int))
def vc98_10 (c : Cab) (w : Stp) := (waveS (vc98_2 c w) w.1 w.2.1 (!w.2.2.1) (w.2.2.2.1 + (1 : Int)) (Int.tdiv (w.2.2.2.2 * (vc98_1 c w)) (8 : Int)))
def vc98_11 (c : Cab) (w : Stp) := (waveS (vc98_2 c w) w.1 w.2.1 false (w.2.2.2.1 + (1 : Int)) (Int.tdiv (w.2.2.2.2 * c.2.2.2) (8 : Int)))
def vc98_12 (c : Cab) (w : Stp) := (waveS (vc98_2 c w) w.1 (0 : Int) true (w.2.2.2.1 + (1 : Int)) (Int.tdiv (w.2.2.2.2 * c.2.2.1) (8 : Int)))
def vc98_13 (c : Cab) (w : Stp) (x : Nat) := (((0 : Int) ≤ (↑x : Int) ∧ (↑x : Int) < (↑(List.length (nextA c w)) : Int)) ∧ (0 : Int) ≤ (↑x : Int) ∧ (↑x : Int) < (↑(List.length (nextA c w)) : Int))
def vc98_14 (c : Cab) (w : Stp) (y : Nat) := (y ≤ List.length (nextA c w) ∧ (w.2.2.2.1 = (6 : Int) → False))
def vc98_15 (c : Cab) (w : Stp) (x : Nat) (y : Nat) := ((↑x : Int) + (1 : Int) = (↑y : Int) ∧ nextA c w = nextA c w ∧ nzS (List.take x (nextA c w)) = nzS (List.take y (nextA c w)))
def vc98_16 (c : Cab) (w : Stp) (x : Nat) := (decide ((↑x : Int) < (↑(List.length (nextA c w)) : Int)) = false → nzS (List.take x (nextA c w)) = childS c w)
def vc98_17 (c : Cab) (w : Stp) := ((8 : Int) + List.getD c.2.1 (Int.toNat (w.2.1 - (1 : Int))) (0 : Int))
theorem vc98 : ∀ (c : Cab) (w : Stp), wpF Tryz.prog G50 (ann0 (annNext c w)) Tryz.f98 cNextR (c, w, ()) = (cabS c = 0 → wvC c w → ((w.2.2.2.1 == 6) = true → [] = childS c w) ∧ ((w.2.2.2.1 == 6) = false → ((w.2.1 == 0) = true → ((vc98_9 c w) ∧ (I64 (w.2.2.2.2 * c.2.2.1)) ∧ ((8 : Int) = 0 → False) ∧ ((-9223372036854775808) ≤ Int.tdiv (w.2.2.2.2 * c.2.2.1) 8 ∧ Int.tdiv (w.2.2.2.2 * c.2.2.1) (8 : Int) ≤ 9223372036854775807) ∧ cabS (vc98_2 c w) = 0 ∧ (0 ≤ w.1 ∧ w.1 ≤ 1000000) ∧ waveOk (vc98_2 c w) 0 true ∧ 40 ≤ 140737488355328) ∧ ∃ (x : Nat), (0 = (↑x : Int) ∧ [((vc98_12 c w).1, (vc98_12 c w).2.1, (vc98_12 c w).2.2.1, (vc98_12 c w).2.2.2.1, (vc98_12 c w).2.2.2.2)] = nextA c w ∧ List.length (nzS (List.take x (nextA c w))) = 0) ∧ (x ≤ List.length (nextA c w) ∧ (w.2.2.2.1 = 6 → False)) ∧ ∀ (x : Nat), x ≤ List.length (nextA c w) ∧ (w.2.2.2.1 = 6 → False) → (decide ((↑x : Int) < (↑(List.length (nextA c w)) : Int)) = true → (vc98_13 c w x) ∧ ((vc98_7 c w x) = true → (vc98_5 c w x) ∧ (vc98_6 c w x) ∧ ∃ (y : Nat), (vc98_0 c w x y) ∧ (vc98_14 c w y) ∧ List.length (nextA c w) - y < List.length (nextA c w) - x) ∧ ((vc98_7 c w x) = false → (vc98_6 c w x) ∧ ∃ (y : Nat), (vc98_15 c w x y) ∧ (vc98_14 c w y) ∧ List.length (nextA c w) - y < List.length (nextA c w) - x)) ∧ (vc98_16 c w x)) ∧ ((w.2.1 == 0) = false → ((w.2.1 == (↑(List.length c.1) : Int)) = true → ((vc98_9 c w) ∧ (I64 (w.2.2.2.2 * c.2.2.2)) ∧ ((8 : Int) = 0 → False) ∧ ((-9223372036854775808) ≤ Int.tdiv (w.2.2.2.2 * c.2.2.2) 8 ∧ Int.tdiv (w.2.2.2.2 * c.2.2.2) (8 : Int) ≤ 9223372036854775807) ∧ cabS (vc98_2 c w) = 0 ∧ (0 ≤ w.1 ∧ w.1 ≤ 1000000) ∧ waveOk (vc98_2 c w) w.2.1 false ∧ 40 ≤ 140737488355328) ∧ ∃ (x : Nat), (0 = (↑x : Int) ∧ [((vc98_11 c w).1, (vc98_11 c w).2.1, (vc98_11 c w).2.2.1, (vc98_11 c w).2.2.2.1, (vc98_11 c w).2.2.2.2)] = nextA c w ∧ List.length (nzS (List.take x (nextA c w))) = 0) ∧ (x ≤ List.length (nextA c w) ∧ (w.2.2.2.1 = 6 → False)) ∧ ∀ (x : Nat), x ≤ List.length (nextA c w) ∧ (w.2.2.2.1 = 6 → False) → (decide ((↑x : Int) < (↑(List.length (nextA c w)) : Int)) = true → (vc98_13 c w x) ∧ ((vc98_7 c w x) = true → (vc98_5 c w x) ∧ (vc98_6 c w x) ∧ ∃ (y : Nat), (vc98_0 c w x y) ∧ (vc98_14 c w y) ∧ List.length (nextA c w) - y < List.length (nextA c w) - x) ∧ ((vc98_7 c w x) = false → (vc98_6 c w x) ∧ ∃ (y : Nat), (vc98_15 c w x y) ∧ (vc98_14 c w y) ∧ List.length (nextA c w) - y < List.length (nextA c w) - x)) ∧ (vc98_16 c w x)) ∧ ((w.2.1 == (↑(List.length c.1) : Int)) = false → (((-9223372036854775808) ≤ w.2.1 - 1 ∧ w.2.1 - (1 : Int) ≤ 9223372036854775807) ∧ (0 ≤ w.2.1 - 1 ∧ w.2.1 - 1 < (↑(List.length c.2.1) : Int)) ∧ 0 ≤ w.2.1 - 1 ∧ w.2.1 - 1 < (↑(List.length c.2.1) : Int)) ∧ ((!w.2.2.1) = true → ((-9223372036854775808 : Int) ≤ 0 - List.getD c.2.1 (Int.toNat (w.2.1 - 1)) 0 ∧ 0 - List.getD c.2.1 (Int.toNat (w.2.1 - 1)) (0 : Int) ≤ 9223372036854775807) ∧ ((vc98_9 c w) ∧ ((-9223372036854775808 : Int) ≤ 8 + (vc98_1 c w) ∧ 8 + (vc98_1 c w) ≤ 9223372036854775807) ∧ (I64 (w.2.2.2.2 * (8 + (vc98_1 c w)))) ∧ ((8 : Int) = 0 → False) ∧ ((-9223372036854775808) ≤ Int.tdiv (w.2.2.2.2 * (8 + (vc98_1 c w))) 8 ∧ Int.tdiv (w.2.2.2.2 * (8 + (vc98_1 c w))) (8 : Int) ≤ 9223372036854775807) ∧ cabS (vc98_2 c w) = 0 ∧ (0 ≤ w.1 ∧ w.1 ≤ 1000000) ∧ waveOk (vc98_2 c w) w.2.1 w.2.2.1 ∧ 40 ≤ 140737488355328) ∧ ((vc98_9 c w) ∧ (I64 (w.2.2.2.2 * (vc98_1 c w))) ∧ ((8 : Int) = 0 → False) ∧ ((-9223372036854775808) ≤ Int.tdiv (w.2.2.2.2 * (vc98_1 c w)) 8 ∧ Int.tdiv (w.2.2.2.2 * (vc98_1 c w)) (8 : Int) ≤ 9223372036854775807) ∧ cabS (vc98_2 c w) = 0 ∧ (0 ≤ w.1 ∧ w.1 ≤ 1000000) ∧ waveOk (vc98_2 c w) w.2.1 !w.2.2.1 ∧ 80 ≤ 140737488355328) ∧ ∃ (x : Nat), (0 = (↑x : Int) ∧ [((vc98_8 c w).1, (vc98_8 c w).2.1, (vc98_8 c w).2.2.1, (vc98_8 c w).2.2.2.1, (vc98_8 c w).2.2.2.2), ((vc98_10 c w).1, (vc98_10 c w).2.1, (vc98_10 c w).2.2.1, (vc98_10 c w).2.2.2.1, (vc98_10 c w).2.2.2.2)] = nextA c w ∧ List.length (nzS (List.take x (nextA c w))) = 0) ∧ (x ≤ List.length (nextA c w) ∧ (w.2.2.2.1 = 6 → False)) ∧ ∀ (x : Nat), x ≤ List.length (nextA c w) ∧ (w.2.2.2.1 = 6 → False) → (decide ((↑x : Int) < (↑(List.length (nextA c w)) : Int)) = true → (vc98_13 c w x) ∧ ((vc98_7 c w x) = true → (vc98_5 c w x) ∧ (vc98_6 c w x) ∧ ∃ (y : Nat), (vc98_0 c w x y) ∧ (vc98_14 c w y) ∧ List.length (nextA c w) - y < List.length (nextA c w) - x) ∧ ((vc98_7 c w x) = false → (vc98_6 c w x) ∧ ∃ (y : Nat), (vc98_15 c w x y) ∧ (vc98_14 c w y) ∧ List.length (nextA c w) - y < List.length (nextA c w) - x)) ∧ (vc98_16 c w x)) ∧ ((!w.2.2.1) = false → ((vc98_9 c w) ∧ ((-9223372036854775808 : Int) ≤ 8 + List.getD c.2.1 (Int.toNat (w.2.1 - 1)) 0 ∧ 8 + List.getD c.2.1 (Int.toNat (w.2.1 - 1)) (0 : Int) ≤ 9223372036854775807) ∧ (I64 (w.2.2.2.2 * (vc98_17 c w))) ∧ ((8 : Int) = 0 → False) ∧ ((-9223372036854775808) ≤ Int.tdiv (w.2.2.2.2 * (vc98_17 c w)) 8 ∧ Int.tdiv (w.2.2.2.2 * (vc98_17 c w)) (8 : Int) ≤ 9223372036854775807) ∧ cabS (vc98_2 c w) = 0 ∧ (0 ≤ w.1 ∧ w.1 ≤ 1000000) ∧ waveOk (vc98_2 c w) w.2.1 w.2.2.1 ∧ 40 ≤ 140737488355328) ∧ ((vc98_9 c w) ∧ ((-9223372036854775808) ≤ w.2.2.2.2 * List.getD c.2.1 (Int.toNat (w.2.1 - 1)) 0 ∧ w.2.2.2.2 * List.getD c.2.1 (Int.toNat (w.2.1 - 1)) (0 : Int) ≤ 9223372036854775807) ∧ ((8 : Int) = 0 → False) ∧ ((-9223372036854775808) ≤ Int.tdiv (w.2.2.2.2 * List.getD c.2.1 (Int.toNat (w.2.1 - 1)) 0) 8 ∧ Int.tdiv (w.2.2.2.2 * List.getD c.2.1 (Int.toNat (w.2.1 - 1)) 0) (8 : Int) ≤ 9223372036854775807) ∧ cabS (vc98_2 c w) = 0 ∧ (0 ≤ w.1 ∧ w.1 ≤ 1000000) ∧ waveOk (vc98_2 c w) w.2.1 !w.2.2.1 ∧ 80 ≤ 140737488355328) ∧ ∃ (x : Nat), (0 = (↑x : Int) ∧ [((vc98_3 c w).1, (vc98_3 c w).2.1, (vc98_3 c w).2.2.1, (vc98_3 c w).2.2.2.1, (vc98_3 c w).2.2.2.2), ((vc98_4 c w).1, (vc98_4 c w).2.1, (vc98_4 c w).2.2.1, (vc98_4 c w).2.2.2.1, (vc98_4 c w).2.2.2.2)] = nextA c w ∧ List.length (nzS (List.take x (nextA c w))) = 0) ∧ (x ≤ List.length (nextA c w) ∧ (w.2.2.2.1 = 6 → False)) ∧ ∀ (x : Nat), x ≤ List.length (nextA c w) ∧ (w.2.2.2.1 = 6 → False) → (decide ((↑x : Int) < (↑(List.length (nextA c w)) : Int)) = true → (vc98_13 c w x) ∧ ((vc98_7 c w x) = true → (vc98_5 c w x) ∧ (vc98_6 c w x) ∧ ∃ (y : Nat), (vc98_0 c w x y) ∧ (vc98_14 c w y) ∧ List.length (nextA c w) - y < List.length (nextA c w) - x) ∧ ((vc98_7 c w x) = false → (vc98_6 c w x) ∧ ∃ (y : Nat), (vc98_15 c w x y) ∧ (vc98_14 c w y) ∧ List.length (nextA c w) - y < List.length (nextA c w) - x)) ∧ (vc98_16 c w x)))))) := by
 intros
 kernel_rfl
theorem wp98 (c : Cab) (w : Stp) : wpF Tryz.prog G50 (ann0 (annNext c w)) Tryz.f98 cNextR (c, w, ()) := by
 refine (vc98 c w).mpr ?_
 delta vc98_0 vc98_1 vc98_2 vc98_3 vc98_4 vc98_5 vc98_6 vc98_7 vc98_8 vc98_9 vc98_10 vc98_11 vc98_12 vc98_13 vc98_14 vc98_15 vc98_16 vc98_17
 delta I64
 intro h hw
 have hv : cabV c := cabS_V h
 obtain ⟨v1, v2, v3, v4, v5, v6, v7⟩ := id hv
 obtain ⟨hb, hn⟩ := id hw
 have hA := nextA_len c w
 have b0 := hgt_bd (k := c.2.2.1) hb (by omega)
 have b1 := hgt_bd (k := c.2.2.2) hb (by omega)
 have hh := hb.2.2.1
 have ht := hb.1
 have loop : w.2.2.2.1 ≠ 6 → ∀ (x : Nat), x ≤ (nextA c w).length ∧ (w.2.2.2.1 = 6 → False) →
   (decide ((x : Int) < (nextA c w).length) = true → ((0 ≤ (x : Int) ∧ (x : Int) < (nextA c w).length) ∧ 0 ≤ (x : Int) ∧ (x : Int) < (nextA c w).length) ∧
    ((((nextA c w).getD x (0, 0, false, 0, 0)).2.2.2.2 != 0) = true → ((0 ≤ (x : Int) ∧ (x : Int) < (nextA c w).length) ∧ (0 ≤ (x : Int) ∧ (x : Int) < (nextA c w).length) ∧ ((nzS (List.take x (nextA c w))).length + 1) * 40 ≤ 140737488355328) ∧
     (-9223372036854775808 ≤ (x : Int) + 1 ∧ (x : Int) + 1 ≤ 9223372036854775807) ∧ ∃ y : Nat, ((x : Int) + 1 = y ∧ nextA c w = nextA c w ∧ nzS (List.take x (nextA c w)) ++ [(nextA c w).getD x (0, 0, false, 0, 0)] = nzS (List.take y (nextA c w))) ∧ (y ≤ (nextA c w).length ∧ (w.2.2.2.1 = 6 → False)) ∧ (nextA c w).length - y < (nextA c w).length - x) ∧
    ((((nextA c w).getD x (0, 0, false, 0, 0)).2.2.2.2 != 0) = false → (-9223372036854775808 ≤ (x : Int) + 1 ∧ (x : Int) + 1 ≤ 9223372036854775807) ∧ ∃ y : Nat, ((x : Int) + 1 = y ∧ nextA c w = nextA c w ∧ nzS (List.take x (nextA c w)) = nzS (List.take y (nextA c w))) ∧ (y ≤ (nextA c w).length ∧ (w.2.2.2.1 = 6 → False)) ∧ (nextA c w).length - y < (nextA c w).length - x)) ∧
   (decide ((x : Int) < (nextA c w).length) = false → nzS (List.take x (nextA c w)) = childS c w) := by
  intro h6 k hk
  refine ⟨fun h1 => ?_, fun h1 => ?_⟩
  ·have hlt : k < (nextA c w).length := by simpa using h1
   have e := nzS_take hlt
   have hz := nzS_len (nextA c w) k
   refine ⟨by omega, fun h2 => ⟨by omega, by omega, k + 1, ⟨by simp, rfl, ?_⟩, ⟨by omega, h6⟩, by omega⟩, fun h2 => ⟨by omega, k + 1, ⟨by simp, rfl, ?_⟩, ⟨by omega, h6⟩, by omega⟩⟩
   ·rw [e, if_neg (by simpa using h2)]
   ·rw [e, if_pos (by simpa using h2)]
  ·have hge : ¬ k < (nextA c w).length := by simpa using h1
   rw [List.take_of_length_le (by omega), next_child hv hw h6]
 have c6 : w.2.2.2.1 = 6 → childS c w = [] := fun e => by unfold childS; rw [if_pos e]
 refine ⟨fun e => (c6 (by simpa using e)).symm, fun e => ?_⟩
 have h6 : w.2.2.2.1 ≠ 6 := by simpa using e
 replace loop := loop h6
 have z0 : (nzS (List.take 0 (nextA c w))).length = 0 := rfl
 refine ⟨fun e1 => ?_, fun e1 => ⟨fun e2 => ?_, fun e2 => ?_⟩⟩
 ·have e1 : w.2.1 = 0 := by simpa using e1
  have eA : nextA c w = [waveS c w.1 0 true (w.2.2.2.1 + 1) (hgt w c.2.2.1)] := by unfold nextA; rw [if_pos e1]
  refine ⟨⟨by omega, by omega, by omega, by unfold hgt at b0; omega, h, ht, (show 0 ≤ (0 : Int) ∧ (0 : Int) < c.1.length by omega), by omega⟩, (0 : Nat), ⟨rfl, eA.symm, z0⟩, ⟨Nat.zero_le _, h6⟩, loop⟩
 ·have e1 : ¬ w.2.1 = 0 := by simpa using e1
  have e2 : w.2.1 = c.1.length := by simpa using e2
  have eA : nextA c w = [waveS c w.1 w.2.1 false (w.2.2.2.1 + 1) (hgt w c.2.2.2)] := by unfold nextA; rw [if_neg e1, if_pos e2]
  refine ⟨⟨by omega, by omega, by omega, by unfold hgt at b1; omega, h, ht, (show 1 ≤ w.2.1 ∧ w.2.1 ≤ c.1.length by omega), by omega⟩, (0 : Nat), ⟨rfl, eA.symm, z0⟩, ⟨Nat.zero_le _, h6⟩, loop⟩
 ·have e1 : ¬ w.2.1 = 0 := by simpa using e1
  have e2 : ¬ w.2.1 = c.1.length := by simpa using e2
  obtain ⟨j1, j2⟩ := joint_ok hv hw e1 e2
  have eA : nextA c w = [waveS c w.1 w.2.1 w.2.2.1 (w.2.2.2.1 + 1) (hgt w (8 + facW c w)), waveS c w.1 w.2.1 (!w.2.2.1) (w.2.2.2.1 + 1) (hgt w (facW c w))] := by unfold nextA; rw [if_neg e1, if_neg e2]
  refine ⟨⟨by omega, j1, j1⟩, fun e3 => ?_, fun e3 => ?_⟩
  ·have e3 : w.2.2.1 = false := by simpa using e3
   have ef : facW c w = 0 - c.2.1.getD (w.2.1 - 1).toNat 0 := by unfold facW; rw [e3]; rfl
   rw [ef] at eA
   have b2 := hgt_bd (k := 8 + (0 - c.2.1.getD (w.2.1 - 1).toNat 0)) hb (by omega)
   have b3 := hgt_bd (k := 0 - c.2.1.getD (w.2.1 - 1).toNat 0) hb (by omega)
   unfold hgt at b2 b3
   exact ⟨by omega, ⟨by omega, by omega, by omega, by omega, by omega, h, ht, waveOk_mid hw e1 e2 _, by omega⟩, ⟨by omega, by omega, by omega, by omega, h, ht, waveOk_mid hw e1 e2 _, by omega⟩, (0 : Nat), ⟨rfl, eA.symm, z0⟩, ⟨Nat.zero_le _, h6⟩, loop⟩
  ·have e3 : w.2.2.1 = true := by simpa using e3
   have ef : facW c w = c.2.1.getD (w.2.1 - 1).toNat 0 := by unfold facW; rw [e3]; rfl
   rw [ef] at eA
   have b2 := hgt_bd (k := 8 + (c.2.1.getD (w.2.1 - 1).toNat 0)) hb (by omega)
   have b3 := hgt_bd (k := c.2.1.getD (w.2.1 - 1).toNat 0) hb (by omega)
   unfold hgt at b2 b3
   exact ⟨⟨by omega, by omega, by omega, by omega, by omega, h, ht, waveOk_mid hw e1 e2 _, by omega⟩, ⟨by omega, by omega, by omega, by omega, h, ht, waveOk_mid hw e1 e2 _, by omega⟩, (0 : Nat), ⟨rfl, eA.symm, z0⟩, ⟨Nat.zero_le _, h6⟩, loop⟩
theorem ok98 [Sx.Dr] : Ok Tryz.prog 98 cNextR := ok_of_wp mixed g50 (by kernel_rfl) (by kernel_rfl) (fun xx => ann0 (annNext xx.1 xx.2.1)) fun xx => wp98 xx.1 xx.2.1
abbrev G51 : Gam := (98, cNextR) :: G50
theorem g51 [Sx.Dr] : GamOk Tryz.prog G51 := .cons ok98 g50
def wt (w : Stp) : Nat := 3 ^ (7 - w.2.2.2.1.toNat)
def wtL : List Stp → Nat
 | [] => 0
 | w :: r => wt w + wtL r
theorem wt_pos (w : Stp) : 0 < wt w := Nat.pow_pos (by omega)
theorem wtL_append (l r : List Stp) : wtL (l ++ r) = wtL l + wtL r := by
 induction l with
 | nil => simp [wtL]
 | cons x l ih => simp only [List.cons_append, wtL, ih]; omega
theorem sent_hop {c : Cab} {w x : Stp} {r : Bool} {k : Int} (h : x ∈ sentS c w r k) : x.2.2.2.1 = w.2.2.2.1 + 1 := by
 unfold sentS at h
 split at h
 ·simp at h
 ·simp only [List.mem_singleton] at h; rw [h]
theorem sent_wt {c : Cab} {w : Stp} {r : Bool} {k : Int} (h0 : 0 ≤ w.2.2.2.1) : wtL (sentS c w r k) ≤ 3 ^ (6 - w.2.2.2.1.toNat) := by
 unfold sentS
 split
 ·exact Nat.zero_le _
 ·simp only [wtL, wt, Nat.add_zero]
  rw [show (w.2.2.2.1 + 1).toNat = w.2.2.2.1.toNat + 1 by omega, show 7 - (w.2.2.2.1.toNat + 1) = 6 - w.2.2.2.1.toNat by omega]
  exact Nat.le_refl _
theorem child_wt {c : Cab} {w : Stp} (h0 : 0 ≤ w.2.2.2.1 ∧ w.2.2.2.1 ≤ 6) : wtL (childS c w) < wt w := by
 unfold childS
 split
 ·exact wt_pos w
 ·rename_i h6
  have e : wt w = 3 ^ (6 - w.2.2.2.1.toNat) * 3 := by
   unfold wt
   rw [← Nat.pow_succ, show 7 - w.2.2.2.1.toNat = (6 - w.2.2.2.1.toNat).succ by omega]
  have hp : 0 < 3 ^ (6 - w.2.2.2.1.toNat) := Nat.pow_pos (by omega)
  repeat' split
  ·have := sent_wt (c := c) (r := true) (k := c.2.2.1) h0.1; omega
  ·have := sent_wt (c := c) (r := false) (k := c.2.2.2) h0.1; omega
  ·rw [wtL_append]
   have h1 := sent_wt (c := c) (r := w.2.2.1) (k := 8 + facW c w) h0.1
   have h2 := sent_wt (c := c) (r := !w.2.2.1) (k := facW c w) h0.1
   omega
def bfs (c : Cab) (last : Int) : Nat → List Stp → List Stp
 | 0, _ => []
 | _ + 1, [] => []
 | n + 1, w :: r => if last < w.1 then bfs c last n r else w :: bfs c last n (r ++ childS c w)
def hbN (h : Nat) : Int := 268435456 * 2 ^ h
def wvH (c : Cab) (w : Stp) : Prop := (0 ≤ w.2.2.2.1 ∧ w.2.2.2.1 ≤ 6) ∧ (0 ≤ w.2.1 ∧ w.2.1 ≤ c.1.length) ∧ (0 ≤ w.1 ∧ w.1 ≤ 100064 + 64 * w.2.2.2.1) ∧ -hbN w.2.2.2.1.toNat ≤ w.2.2.2.2 ∧ w.2.2.2.2 ≤ hbN w.2.2.2.1.toNat
theorem hbN_le : ∀ {h : Nat}, h ≤ 6 → hbN h ≤ 17179869184 := by
 intro h hh
 have : ∀ k, k < 7 → hbN k ≤ 17179869184 := by decide
 exact this h (by omega)
theorem wvH_C {c : Cab} {w : Stp} (hv : cabV c) (h : wvH c w) : wvC c w := by
 obtain ⟨h1, h2, h3, h4, h5⟩ := h
 have := hbN_le (h := w.2.2.2.1.toNat) (by omega)
 have := hv.2.1
 exact ⟨⟨by omega, by omega, h1, by omega, by omega⟩, h2.2⟩
theorem hgt_two {w : Stp} {k B : Int} (hk : -16 ≤ k ∧ k ≤ 16) (h : -B ≤ w.2.2.2.2 ∧ w.2.2.2.2 ≤ B) : -(2 * B) ≤ hgt w k ∧ hgt w k ≤ 2 * B := by
 have hB : 0 ≤ B := by omega
 have a1 : w.2.2.2.2 * k ≤ 16 * B := by
  rcases Int.le_total 0 k with hk0 | hk0
  ·have := Int.mul_le_mul h.2 hk.2 hk0 hB; omega
  ·have q := Int.mul_le_mul_of_nonpos_right h.1 hk0
   have q2 : B * -k ≤ B * 16 := Int.mul_le_mul_of_nonneg_left (by omega) hB
   rw [Int.neg_mul] at q; rw [Int.mul_neg] at q2; omega
 have a2 : -(16 * B) ≤ w.2.2.2.2 * k := by
  rcases Int.le_total 0 k with hk0 | hk0
  ·have q := Int.mul_le_mul_of_nonneg_right h.1 hk0
   have q2 : B * k ≤ B * 16 := Int.mul_le_mul_of_nonneg_left hk.2 hB
   rw [Int.neg_mul] at q; omega
  ·have q := Int.mul_le_mul_of_nonpos_right h.2 hk0
   have q2 : B * -k ≤ B * 16 := Int.mul_le_mul_of_nonneg_left (by omega) hB
   rw [Int.mul_neg] at q2; omega
 unfold hgt
 generalize w.2.2.2.2 * k = x at a1 a2
 rcases Int.le_total 0 x with hx | hx
 ·rw [Int.tdiv_eq_ediv_of_nonneg hx]; omega
 ·have e : x.tdiv 8 = - ((-x).tdiv 8) := by rw [Int.neg_tdiv, Int.neg_neg]
  rw [e, Int.tdiv_eq_ediv_of_nonneg (by omega)]; omega
theorem sent_H {c : Cab} {w x : Stp} {r : Bool} {k : Int} (hv : cabV c) (hw : wvH c w) (h6 : ¬ w.2.2.2.1 = 6) (hk : -16 ≤ k ∧ k ≤ 16) (h : x ∈ sentS c w r k) : wvH c x := by
 unfold sentS at h
 split at h
 ·simp at h
 ·rename_i hn
  simp only [List.mem_singleton] at h
  obtain ⟨h1, h2, h3, h4⟩ := hw
  have b := hv.2.2.1 _ (getD_mem (d := (0, 0)) (l := c.1) (k := (aheadS w r).2.toNat) (by omega))
  have g := hgt_two hk h4
  have e : hbN (w.2.2.2.1 + 1).toNat = 2 * hbN w.2.2.2.1.toNat := by
   rw [show (w.2.2.2.1 + 1).toNat = w.2.2.2.1.toNat + 1 by omega]
   unfold hbN; rw [Int.pow_succ]; omega
  have hb : 0 ≤ (aheadS w r).1 ∧ (aheadS w r).1 ≤ c.1.length := by
   unfold aheadS at hn ⊢
   cases r
   ·simp only [cond_false] at hn ⊢; omega
   ·simp only [cond_true] at hn ⊢; omega
  rw [h]
  unfold wvH
  dsimp only
  refine ⟨by omega, hb, by omega, ?_⟩
  rw [e]; exact g
theorem child_H {c : Cab} {w x : Stp} (hv : cabV c) (hw : wvH c w) (h : x ∈ childS c w) : wvH c x := by
 obtain ⟨_, _, _, _, _, v6, v7⟩ := id hv
 unfold childS at h
 split at h
 ·simp at h
 ·rename_i h6
  split at h
  ·exact sent_H hv hw h6 (by omega) h
  ·rename_i h0
   split at h
   ·exact sent_H hv hw h6 (by omega) h
   ·rename_i h1
    have j := joint_ok hv (wvH_C hv hw) h0 h1
    have fb : -8 ≤ facW c w ∧ facW c w ≤ 8 := by
     unfold facW
     cases w.2.2.1 <;> simp only [cond_true, cond_false] <;> omega
    rcases List.mem_append.1 h with h | h
    ·exact sent_H hv hw h6 (by omega) h
    ·exact sent_H hv hw h6 (by omega) h
theorem bfs_fuel {c : Cab} {last : Int} (hv : cabV c) : ∀ {n m : Nat} {l : List Stp}, (∀ w ∈ l, wvH c w) → wtL l ≤ n → wtL l ≤ m → bfs c last n l = bfs c last m l
 | 0, 0, _, _, _, _ => rfl
 | 0, m + 1, [], _, _, _ => rfl
 | 0, _ + 1, w :: r, _, h, _ => by have := wt_pos w; simp only [wtL] at h; omega
 | n + 1, 0, [], _, _, _ => rfl
 | _ + 1, 0, w :: r, _, _, h => by have := wt_pos w; simp only [wtL] at h; omega
 | n + 1, m + 1, [], _, _, _ => rfl
 | n + 1, m + 1, w :: r, hl, h1, h2 => by
  have hp := wt_pos w
  have hw := hl w (by simp)
  have hc := child_wt (c := c) hw.1
  simp only [wtL] at h1 h2
  simp only [bfs]
  split
  ·exact bfs_fuel hv (fun x hx => hl x (by simp [hx])) (by omega) (by omega)
  ·refine congrArg _ (bfs_fuel hv (fun x hx => ?_) (by rw [wtL_append]; omega) (by rw [wtL_append]; omega))
   rcases List.mem_append.1 hx with hx | hx
   ·exact hl x (by simp [hx])
   ·exact child_H hv hw hx
def runS (c : Cab) (last : Int) (l : List Stp) : List Stp := bfs c last (wtL l) l
theorem runS_cons {c : Cab} {last : Int} {w : Stp} {r : List Stp} (hv : cabV c) (hl : ∀ x ∈ w :: r, wvH c x) : runS c last (w :: r) = if last < w.1 then runS c last r else w :: runS c last (r ++ childS c w) := by
 have hp := wt_pos w
 have hw := hl w (by simp)
 have hc := child_wt (c := c) hw.1
 have hr : ∀ x ∈ r, wvH c x := fun x hx => hl x (by simp [hx])
 have hrc : ∀ x ∈ r ++ childS c w, wvH c x := fun x hx => by
  rcases List.mem_append.1 hx with hx | hx
  ·exact hr x hx
  ·exact child_H hv hw hx
 have e : runS c last (w :: r) = bfs c last (wt w + wtL r - 1 + 1) (w :: r) := by
  unfold runS
  rw [show wt w + wtL r - 1 + 1 = wtL (w :: r) by simp only [wtL]; omega]
 rw [e]
 simp only [bfs]
 unfold runS
 split
 ·exact bfs_fuel hv hr (by omega) (Nat.le_refl _)
 ·exact congrArg _ (bfs_fuel hv hrc (by rw [wtL_append]; omega) (Nat.le_refl _))
theorem bfs_len {c : Cab} {last : Int} (hv : cabV c) : ∀ {n : Nat} {l : List Stp}, (∀ w ∈ l, wvH c w) → wtL l ≤ n → (bfs c last n l).length ≤ wtL l
 | 0, _, _, _ => by simp [bfs]
 | n + 1, [], _, _ => by simp [bfs]
 | n + 1, w :: r, hl, h1 => by
  have hp := wt_pos w
  have hw := hl w (by simp)
  have hc := child_wt (c := c) hw.1
  simp only [wtL] at h1 ⊢
  simp only [bfs]
  split
  ·have := bfs_len (last := last) hv (l := r) (n := n) (fun x hx => hl x (by simp [hx])) (by omega); omega
  ·have := bfs_len (last := last) hv (l := r ++ childS c w) (n := n) (fun x hx => by
    rcases List.mem_append.1 hx with hx | hx
    ·exact hl x (by simp [hx])
    ·exact child_H hv hw hx) (by rw [wtL_append]; omega)
   rw [wtL_append] at this
   simp only [List.length_cons]; omega
theorem bfs_H {c : Cab} {last : Int} (hv : cabV c) : ∀ {n : Nat} {l : List Stp}, (∀ w ∈ l, wvH c w) → ∀ w ∈ bfs c last n l, wvH c w ∧ w.1 ≤ last
 | 0, _, _, w, h => by simp [bfs] at h
 | n + 1, [], _, w, h => by simp [bfs] at h
 | n + 1, w :: r, hl, x, h => by
  simp only [bfs] at h
  split at h
  ·exact bfs_H hv (fun x hx => hl x (by simp [hx])) x h
  ·rename_i hlt
   rcases List.mem_cons.1 h with rfl | h
   ·exact ⟨hl _ (by simp), by omega⟩
   ·refine bfs_H hv (fun x hx => ?_) x h
    rcases List.mem_append.1 hx with hx | hx
    ·exact hl x (by simp [hx])
    ·exact child_H hv (hl w (by simp)) hx
def initS (c : Cab) (f : Flt) : List Stp := [(f.2.2.1 + f.2.1, f.1, false, 0, f.2.2.2 * 262144), (f.2.2.1 + ((c.1.getD f.1.toNat (0, 0)).2 - f.2.1), f.1 + 1, true, 0, f.2.2.2 * 262144)]
theorem initS_H {c : Cab} {f : Flt} (h : fltV c f) : ∀ w ∈ initS c f, wvH c w := by
 obtain ⟨hv, h1, h2, h3, h4, h5⟩ := h
 have b := hv.2.2.1 _ (getD_mem (d := (0, 0)) (l := c.1) (k := f.1.toNat) (by omega))
 have e : hbN (0 : Int).toNat = 268435456 := rfl
 intro w hw
 simp only [initS, List.mem_cons, List.not_mem_nil, or_false] at hw
 rcases hw with rfl | rfl
 ·unfold wvH
  dsimp only
  refine ⟨⟨by omega, by omega⟩, ⟨by omega, by omega⟩, ⟨by omega, by omega⟩, ?_⟩
  show -hbN (0 : Int).toNat ≤ f.2.2.2 * 262144 ∧ f.2.2.2 * 262144 ≤ hbN (0 : Int).toNat
  rw [e]; omega
 ·unfold wvH
  dsimp only
  refine ⟨⟨by omega, by omega⟩, ⟨by omega, by omega⟩, ⟨by omega, by omega⟩, ?_⟩
  show -hbN (0 : Int).toNat ≤ f.2.2.2 * 262144 ∧ f.2.2.2 * 262144 ≤ hbN (0 : Int).toNat
  rw [e]; omega
theorem initS_wt (c : Cab) (f : Flt) : wtL (initS c f) = 4374 := rfl
def wavesS (c : Cab) (f : Flt) (win : Int) : List Stp := runS c (f.2.2.1 + win) (initS c f)
def insAll (o : List Stp) : List Stp → List Stp
 | [] => o
 | x :: r => insAll (insS x o) r
def runR (c : Cab) (f : Flt) (win : Int) : List Stp := insAll [] (wavesS c f win)
theorem insS_len (x : Stp) (l : List Stp) : (insS x l).length = l.length + 1 := by
 rw [insS_at]; have := atS_le x l; simp; omega
theorem len_wt : ∀ l : List Stp, l.length ≤ wtL l
 | [] => Nat.le_refl _
 | x :: r => by
  have h1 := wt_pos x
  have h2 := len_wt r
  simp only [wtL, List.length_cons]; omega
theorem child_len (c : Cab) (w : Stp) : (childS c w).length ≤ 2 := by
 unfold childS
 repeat' split
 ·simp
 ·have := sent_len c w true c.2.2.1; omega
 ·have := sent_len c w false c.2.2.2; omega
 ·have h1 := sent_len c w w.2.2.1 (8 + facW c w)
  have h2 := sent_len c w (!w.2.2.1) (facW c w)
  simp only [List.length_append]; omega
theorem app_H {c : Cab} {w : Stp} {r : List Stp} (hv : cabV c) (hl : ∀ x ∈ w :: r, wvH c x) : ∀ x ∈ r ++ childS c w, wvH c x := fun x hx => by
 rcases List.mem_append.1 hx with hx | hx
 ·exact hl x (by simp [hx])
 ·exact child_H hv (hl w (by simp)) hx
def cRunR : Con := { args := [aCR, aF, aI], ress := [(false, .list 186 sStp)], owns := [true], pre := fun (c, f, win, _) => [fltS c f = 0, 0 ≤ win ∧ win ≤ 1000], spec := fun (c, f, win, _) => (runR c f win, ()) }
abbrev annRunR (c : Cab) (f : Flt) (win : Int) : Ann := { X := List Stp × List Stp, σ := fun p => ⟨9, [(3, .one (.ptr 2 0)), (7, .one (.int .i64 (f.2.2.1 + win))), (8, .one (.sl 4)), (9, .one (.sl 5))], [(0, .imm 102 sPt c.1), (1, .imm 3 sI c.2.1), (2, .box 26 [.sl 0, .sl 1, .int .i64 c.2.2.1, .int .i64 c.2.2.2]), (4, .ownT 186 sStp p.1), (5, .own 186 sStp p.2)]⟩, inv := fun p => (∀ w ∈ p.1, wvH c w) ∧ insAll p.2 (runS c (f.2.2.1 + win) p.1) = runR c f win ∧ p.2.length + wtL p.1 ≤ 4374, mu := fun p => wtL p.1 }
def vc27_0 (c : Cab) (f : Flt) (win : Int) (x : List Stp × List Stp) := ((List.getD x.1 (0 : Nat) ((0 : Int), (0 : Int), false, (0 : Int), (0 : Int))).1, (List.getD x.1 (0 : Nat) ((0 : Int), (0 : Int), false, (0 : Int), (0 : Int))).2.1, (List.getD x.1 (0 : Nat) ((0 : Int), (0 : Int), false, (0 : Int), (0 : Int))).2.2.1, (List.getD x.1 (0 : Nat) ((0 : Int), (0 : Int), false, (0 : Int), (0 : Int))).2.2.2.1, (List.getD x.1 (0 : Nat) ((0 : Int), (0 : Int), false, (0 : Int), (0 : Int))).2.2.2.2)
theorem vc27 : ∀ (c : Cab) (f : Flt) (win : Int), wpF Tryz.prog G51 (ann0 (annRunR c f win)) Tryz.f27 cRunR (c, f, win, ()) = (fltS c f = 0 → 0 ≤ win ∧ win ≤ 1000 → (I64 (f.2.2.1 + win)) ∧ ((I64 (f.2.2.1 + f.2.1)) ∧ ((-9223372036854775808) ≤ f.2.2.2 * 262144 ∧ f.2.2.2 * (262144 : Int) ≤ 9223372036854775807) ∧ (0 ≤ f.1 ∧ f.1 < (↑(List.length c.1) : Int)) ∧ (0 ≤ f.1 ∧ f.1 < (↑(List.length c.1) : Int)) ∧ (I64 (f.2.2.1 + (List.getD c.1 (Int.toNat f.1) (0, 0)).2)) ∧ (I64 (f.2.2.1 + (List.getD c.1 (Int.toNat f.1) (0, 0)).2 - f.2.1)) ∧ ((-9223372036854775808) ≤ f.1 + 1 ∧ f.1 + (1 : Int) ≤ 9223372036854775807) ∧ (-9223372036854775808) ≤ f.2.2.2 * 262144 ∧ f.2.2.2 * (262144 : Int) ≤ 9223372036854775807) ∧ ∃ (x : List (Int × Int × Bool × Int × Int) × List (Int × Int × Bool × Int × Int)), (f.2.2.1 + win = f.2.2.1 + win ∧ c.1 = c.1 ∧ c.2.1 = c.2.1 ∧ c.2.2.1 = c.2.2.1 ∧ c.2.2.2 = c.2.2.2 ∧ [(f.2.2.1 + f.2.1, f.1, false, 0, f.2.2.2 * 262144), (f.2.2.1 + (List.getD c.1 (Int.toNat f.1) (0, 0)).2 - f.2.1, f.1 + 1, true, 0, f.2.2.2 * 262144)] = x.1 ∧ List.length x.2 = 0) ∧ ((∀ (w : Stp), w ∈ x.1 → wvH c w) ∧ insAll x.2 (runS c (f.2.2.1 + win) x.1) = runR c f win ∧ List.length x.2 + wtL x.1 ≤ 4374) ∧ ∀ (x : List Stp × List Stp), (∀ (w : Stp), w ∈ x.1 → wvH c w) ∧ insAll x.2 (runS c (f.2.2.1 + win) x.1) = runR c f win ∧ List.length x.2 + wtL x.1 ≤ 4374 → (decide (0 < (↑(List.length x.1) : Int)) = true → (((0 : Int) ≤ 0 ∧ 0 < (↑(List.length x.1) : Int)) ∧ (0 : Int) ≤ 0 ∧ 0 < (↑(List.length x.1) : Int)) ∧ ((0 : Int) ≤ 1 ∧ 1 ≤ (↑(List.length x.1) : Int)) ∧ (decide ((List.getD x.1 0 (0, 0, false, 0, 0)).1 ≤ f.2.2.1 + win) = true → List.length x.2 ≤ 100000 ∧ (cabS (c.1, c.2.1, c.2.2.1, c.2.2.2) = 0 ∧ wvC (c.1, c.2.1, c.2.2.1, c.2.2.2) (vc27_0 c f win x) ∧ (List.length (List.drop 1 x.1) + List.length (childS (c.1, c.2.1, c.2.2.1, c.2.2.2) (vc27_0 c f win x))) * 40 ≤ 140737488355328) ∧ ∃ (y : List (Int × Int × Bool × Int × Int) × List (Int × Int × Bool × Int × Int)), (f.2.2.1 + win = f.2.2.1 + win ∧ c.1 = c.1 ∧ c.2.1 = c.2.1 ∧ c.2.2.1 = c.2.2.1 ∧ c.2.2.2 = c.2.2.2 ∧ List.drop 1 x.1 ++ childS (c.1, c.2.1, c.2.2.1, c.2.2.2) (vc27_0 c f win x) = y.1 ∧ insS (vc27_0 c f win x) x.2 = y.2) ∧ ((∀ (w : Stp), w ∈ y.1 → wvH c w) ∧ insAll y.2 (runS c (f.2.2.1 + win) y.1) = runR c f win ∧ List.length y.2 + wtL y.1 ≤ 4374) ∧ wtL y.1 < wtL x.1) ∧ (decide ((List.getD x.1 0 (0, 0, false, 0, 0)).1 ≤ f.2.2.1 + win) = false → ∃ (y : List (Int × Int × Bool × Int × Int) × List (Int × Int × Bool × Int × Int)), (f.2.2.1 + win = f.2.2.1 + win ∧ c.1 = c.1 ∧ c.2.1 = c.2.1 ∧ c.2.2.1 = c.2.2.1 ∧ c.2.2.2 = c.2.2.2 ∧ List.drop 1 x.1 = y.1 ∧ x.2 = y.2) ∧ ((∀ (w : Stp), w ∈ y.1 → wvH c w) ∧ insAll y.2 (runS c (f.2.2.1 + win) y.1) = runR c f win ∧ List.length y.2 + wtL y.1 ≤ 4374) ∧ wtL y.1 < wtL x.1)) ∧ (decide (0 < (↑(List.length x.1) : Int)) = false → x.2 = runR c f win)) := by
 intros
 kernel_rfl
theorem wp27 (c : Cab) (f : Flt) (win : Int) : wpF Tryz.prog G51 (ann0 (annRunR c f win)) Tryz.f27 cRunR (c, f, win, ()) := by
 refine (vc27 c f win).mpr ?_
 delta vc27_0
 delta I64
 intro h hw
 obtain ⟨hc, hfv⟩ := fltS_V h
 have hv := hfv.1
 obtain ⟨_, g1, g2, g3, g4, g5⟩ := id hfv
 have b := hv.2.2.1 _ (getD_mem (d := (0, 0)) (l := c.1) (k := f.1.toNat) (by omega))
 have hi := initS_H hfv
 have hlen := hv.2.1
 have e0 : [(f.2.2.1 + f.2.1, f.1, false, 0, f.2.2.2 * 262144), (f.2.2.1 + (c.1.getD f.1.toNat (0, 0)).2 - f.2.1, f.1 + 1, true, 0, f.2.2.2 * 262144)] = initS c f := by unfold initS; rw [Int.add_sub_assoc]
 refine ⟨by omega, ⟨by omega, by omega, g1, g1, by omega, by omega, by omega, by omega⟩, (initS c f, []), ⟨rfl, rfl, rfl, rfl, rfl, e0, rfl⟩, ⟨hi, rfl, by show 0 + wtL (initS c f) ≤ 4374; rw [initS_wt]; omega⟩, fun p hp => ?_⟩
 obtain ⟨o, out⟩ := p
 obtain ⟨p1, p2, p3⟩ := hp
 replace p2 : insAll out (runS c (f.2.2.1 + win) o) = runR c f win := p2
 replace p3 : out.length + wtL o ≤ 4374 := p3
 cases o with
 | nil => exact ⟨fun h1 => by simp at h1, fun h1 => p2⟩
 | cons w r =>
  have hw' : wvH c w := p1 w (by simp)
  have hr := runS_cons (last := f.2.2.1 + win) hv p1
  have hc' := child_wt (c := c) hw'.1
  have hp := wt_pos w
  have hl1 := len_wt r
  have hl2 := child_len c w
  simp only [wtL] at p3
  rw [hr] at p2
  refine ⟨fun h1 => ?_, fun h1 => by simp at h1⟩
  have l1 : 0 < ((w :: r).length : Int) := by simp only [List.length_cons]; omega
  refine ⟨⟨⟨by omega, l1⟩, by omega, l1⟩, ⟨by omega, l1⟩, fun h2 => ?_, fun h2 => ?_⟩
  ·have h2 : ¬ f.2.2.1 + win < w.1 := by
    have h2 : w.1 ≤ f.2.2.1 + win := of_decide_eq_true h2
    omega
   rw [if_neg h2] at p2
   refine ⟨by show out.length ≤ 100000; omega, ⟨hc, wvH_C hv hw', ?_⟩, (r ++ childS c w, insS w out), ⟨rfl, rfl, rfl, rfl, rfl, rfl, rfl⟩, ⟨app_H hv p1, p2, ?_⟩, ?_⟩
   ·show (r.length + (childS c w).length) * 40 ≤ 140737488355328
    omega
   ·show (insS w out).length + wtL (r ++ childS c w) ≤ 4374
    rw [insS_len, wtL_append]; omega
   ·show wtL (r ++ childS c w) < wtL (w :: r)
    rw [wtL_append]; simp only [wtL]; omega
  ·have h2 : f.2.2.1 + win < w.1 := by
    have h2 : ¬ w.1 ≤ f.2.2.1 + win := of_decide_eq_false h2
    omega
   rw [if_pos h2] at p2
   refine ⟨(r, out), ⟨rfl, rfl, rfl, rfl, rfl, rfl, rfl⟩, ⟨fun x hx => p1 x (by simp [hx]), p2, ?_⟩, ?_⟩
   ·show out.length + wtL r ≤ 4374
    omega
   ·show wtL r < wtL (w :: r)
    simp only [wtL]; omega
theorem ok27 [Sx.Dr] : Ok Tryz.prog 27 cRunR := ok_of_wp mixed g51 (by kernel_rfl) (by kernel_rfl) (fun xx => ann0 (annRunR xx.1 xx.2.1 xx.2.2.1)) fun xx => wp27 xx.1 xx.2.1 xx.2.2.1
abbrev G52 : Gam := (27, cRunR) :: G51
theorem g52 [Sx.Dr] : GamOk Tryz.prog G52 := .cons ok27 g51
def cOr : Con := { args := [.val false (.list 3 sI)], ress := [I], owns := [], pre := fun (l, _) => [l.length ≤ 1000000], spec := fun (l, _) => (firstS l, ()) }
abbrev annOr (l : List Int) : Ann := { X := Nat, σ := fun k => ⟨1, [(3, .one (.int .i64 0)), (6, .one (.sl 0)), (7, .one (.int .i64 l.length)), (8, .one (.int .i64 k))], [(0, .imm 3 sI l)]⟩, inv := fun k => k ≤ l.length ∧ firstS l = firstS (l.drop k), mu := fun k => l.length - k }
theorem vc146 : ∀ (l : List Int), wpF Tryz.prog G52 (ann0 (annOr l)) Tryz.f146 cOr (l, ()) = (List.length l ≤ 1000000 → ∃ (x : Nat), ((0 : Int) = 0 ∧ (↑(List.length l) : Int) = (↑(List.length l) : Int) ∧ 0 = (↑x : Int) ∧ l = l) ∧ (x ≤ List.length l ∧ firstS l = firstS (List.drop x l)) ∧ ∀ (x : Nat), x ≤ List.length l ∧ firstS l = firstS (List.drop x l) → (decide ((↑x : Int) < (↑(List.length l) : Int)) = true → ((0 ≤ (↑x : Int) ∧ (↑x : Int) < (↑(List.length l) : Int)) ∧ 0 ≤ (↑x : Int) ∧ (↑x : Int) < (↑(List.length l) : Int)) ∧ ((List.getD l x (0 : Int) != 0) = true → List.getD l x 0 = firstS l) ∧ ((List.getD l x (0 : Int) != 0) = false → ((-9223372036854775808) ≤ (↑x : Int) + 1 ∧ (↑x : Int) + (1 : Int) ≤ 9223372036854775807) ∧ ∃ (y : Nat), ((0 : Int) = 0 ∧ (↑(List.length l) : Int) = (↑(List.length l) : Int) ∧ (↑x : Int) + 1 = (↑y : Int) ∧ l = l) ∧ (y ≤ List.length l ∧ firstS l = firstS (List.drop y l)) ∧ List.length l - y < List.length l - x)) ∧ (decide ((↑x : Int) < (↑(List.length l) : Int)) = false → 0 = firstS l)) := by
 intros
 kernel_rfl
theorem wp146 (l : List Int) : wpF Tryz.prog G52 (ann0 (annOr l)) Tryz.f146 cOr (l, ()) := by
 refine (vc146 l).mpr ?_
 intro hb
 refine ⟨(0 : Nat), ⟨rfl, rfl, rfl, rfl⟩, ⟨Nat.zero_le _, rfl⟩, fun (k : Nat) hk => ⟨fun h => ?_, fun h => ?_⟩⟩
 ·have hlt : k < l.length := by simpa using h
  have hd := firstS_drop hlt
  refine ⟨by omega, fun h1 => ?_, fun h1 => ⟨by omega, (k + 1 : Nat), ⟨rfl, rfl, by simp, rfl⟩, ⟨by omega, ?_⟩, by omega⟩⟩
  ·have h2 : ¬ l.getD k 0 = 0 := by simpa using h1
   rw [hk.2, hd, if_neg h2]
  ·have h2 : l.getD k 0 = 0 := by simpa using h1
   rw [hk.2, hd, if_pos h2]
 ·have hlt : ¬ k < l.length := by simpa using h
  have : k = l.length := by omega
  rw [hk.2, this, List.drop_length]; rfl
theorem ok146 [Sx.Dr] : Ok Tryz.prog 146 cOr := ok_of_wp mixed g52 (by kernel_rfl) (by kernel_rfl) (fun xx => ann0 (annOr xx.1)) fun xx => wp146 xx.1
abbrev G53 : Gam := (146, cOr) :: G52
theorem g53 [Sx.Dr] : GamOk Tryz.prog G53 := .cons ok146 g52
def cNan : Con := { args := [aI], ress := [Bo], owns := [], pre := fun _ => [], spec := fun _ => (false, ()) }
theorem vc185 : ∀ (x : Int), wpF Tryz.prog G53 (na ()) Tryz.f185 cNan (x, ()) = ((x != x) = false) := by
 intros
 kernel_rfl
theorem wp185 (x : Int) : wpF Tryz.prog G53 (na ()) Tryz.f185 cNan (x, ()) := by
 refine (vc185 x).mpr ?_
 simp
theorem ok185 [Sx.Dr] : Ok Tryz.prog 185 cNan := ok_of_wp mixed g53 (by kernel_rfl) (by kernel_rfl) na fun xx => wp185 xx.1
abbrev G54 : Gam := (185, cNan) :: G53
theorem g54 [Sx.Dr] : GamOk Tryz.prog G54 := .cons ok185 g53
def cmpI (x y : Int) : Int := if x < y then -1 else if y < x then 1 else 0
def cCmpI : Con := { args := [aI, aI], ress := [I], owns := [], pre := fun _ => [], spec := fun (x, y, _) => (cmpI x y, ()) }
theorem vc147 : ∀ (x y : Int), wpF Tryz.prog G54 (na ()) Tryz.f147 cCmpI (x, y, ()) = ((false = true → (false = true → 0 = cmpI x y) ∧ (false = false → (-1) = cmpI x y)) ∧ (false = false → (false = true → 1 = cmpI x y) ∧ (false = false → (decide (x < y) = true → (-1) = cmpI x y) ∧ (decide (x < y) = false → (decide (y < x) = true → 1 = cmpI x y) ∧ (decide (y < x) = false → 0 = cmpI x y))))) := by
 intros
 kernel_rfl
theorem wp147 (x y : Int) : wpF Tryz.prog G54 (na ()) Tryz.f147 cCmpI (x, y, ()) := by
 refine (vc147 x y).mpr ?_
 unfold cmpI
 refine ⟨fun h => (by cases h), fun _ => ⟨fun h => (by cases h), fun _ => ⟨fun h => ?_, fun h => ⟨fun h1 => ?_, fun h1 => ?_⟩⟩⟩⟩
 ·rw [if_pos (of_decide_eq_true h)]
 ·rw [if_neg (of_decide_eq_false h), if_pos (of_decide_eq_true h1)]
 ·rw [if_neg (of_decide_eq_false h), if_neg (of_decide_eq_false h1)]
theorem ok147 [Sx.Dr] : Ok Tryz.prog 147 cCmpI := ok_of_wp mixed g54 (by kernel_rfl) (by kernel_rfl) na fun xx => wp147 xx.1 xx.2.1
abbrev G55 : Gam := (147, cCmpI) :: G54
theorem g55 [Sx.Dr] : GamOk Tryz.prog G55 := .cons ok147 g54
def cNanS : Con := { args := [aS], ress := [Bo], owns := [], pre := fun _ => [], spec := fun _ => (false, ()) }
theorem vc217 : ∀ (x : ByteArray), wpF Tryz.prog G55 (na ()) Tryz.f217 cNanS (x, ()) = ((!ByteArray.toList x == ByteArray.toList x) = false) := by
 intros
 kernel_rfl
theorem wp217 (x : ByteArray) : wpF Tryz.prog G55 (na ()) Tryz.f217 cNanS (x, ()) := by
 refine (vc217 x).mpr ?_
 simp
theorem ok217 [Sx.Dr] : Ok Tryz.prog 217 cNanS := ok_of_wp mixed g55 (by kernel_rfl) (by kernel_rfl) na fun xx => wp217 xx.1
abbrev G56 : Gam := (217, cNanS) :: G55
theorem g56 [Sx.Dr] : GamOk Tryz.prog G56 := .cons ok217 g55
def bLt (x y : ByteArray) : Bool := Op.bytesLess x.toList y.toList
def cmpB (x y : ByteArray) : Int := if bLt x y = true then -1 else if x.toList = y.toList then 0 else 1
def cCmpS : Con := { args := [aS, aS], ress := [I], owns := [], pre := fun _ => [], spec := fun (x, y, _) => (cmpB x y, ()) }
theorem vc187 : ∀ (x y : ByteArray), wpF Tryz.prog G56 (na ()) Tryz.f187 cCmpS (x, y, ()) = ((false = true → (false = true → 0 = cmpB x y) ∧ (false = false → (-1) = cmpB x y)) ∧ (false = false → (false = true → 1 = cmpB x y) ∧ (false = false → (Op.bytesLess (ByteArray.toList x) (ByteArray.toList y) = true → (-1) = cmpB x y) ∧ (Op.bytesLess (ByteArray.toList x) (ByteArray.toList y) = false → ((!(Op.bytesLess (ByteArray.toList x) (ByteArray.toList y) || ByteArray.toList x == ByteArray.toList y)) = true → 1 = cmpB x y) ∧ ((!(Op.bytesLess (ByteArray.toList x) (ByteArray.toList y) || ByteArray.toList x == ByteArray.toList y)) = false → 0 = cmpB x y))))) := by
 intros
 kernel_rfl
theorem wp187 (x y : ByteArray) : wpF Tryz.prog G56 (na ()) Tryz.f187 cCmpS (x, y, ()) := by
 refine (vc187 x y).mpr ?_
 unfold cmpB bLt
 refine ⟨fun h => (by cases h), fun _ => ⟨fun h => (by cases h), fun _ => ⟨fun h => ?_, fun h => ⟨fun h1 => ?_, fun h1 => ?_⟩⟩⟩⟩
 ·rw [if_pos h]
 ·rw [if_neg (by simp [h]), if_neg]
  simpa [h] using h1
 ·rw [if_neg (by simp [h]), if_pos]
  simpa [h] using h1
theorem ok187 [Sx.Dr] : Ok Tryz.prog 187 cCmpS := ok_of_wp mixed g56 (by kernel_rfl) (by kernel_rfl) na fun xx => wp187 xx.1 xx.2.1
abbrev G57 : Gam := (187, cCmpS) :: G56
theorem g57 [Sx.Dr] : GamOk Tryz.prog G57 := .cons ok187 g56
def nb (b : Bool) : Int := bif b then 1 else 0
def cmpT (a b : Stp) : Int := if a = b then 0 else firstS [cmpI a.1 b.1, cmpI a.2.1 b.2.1, cmpI (nb a.2.2.1) (nb b.2.2.1), cmpI a.2.2.2.1 b.2.2.2.1, cmpI a.2.2.2.2 b.2.2.2.2]
def cCmpT : Con := { args := [.val true sStp, .val true sStp], ress := [I], owns := [], pre := fun _ => [], spec := fun (a, b, _) => (cmpT a b, ()) }
theorem vc90 : ∀ (a b : Stp), wpF Tryz.prog G57 (na ()) Tryz.f90 cCmpT (a, b, ()) = (((a.1 == b.1 && (a.2.1 == b.2.1 && (a.2.2.1 == b.2.2.1 && (a.2.2.2.1 == b.2.2.2.1 && (a.2.2.2.2 == b.2.2.2.2 && true))))) = true → 0 = cmpT a b) ∧ ((a.1 == b.1 && (a.2.1 == b.2.1 && (a.2.2.1 == b.2.2.1 && (a.2.2.2.1 == b.2.2.2.1 && (a.2.2.2.2 == b.2.2.2.2 && true))))) = false → 5 ≤ 1000000 ∧ firstS [cmpI a.1 b.1, cmpI a.2.1 b.2.1, cmpI (bif a.2.2.1 then 1 else 0) (bif b.2.2.1 then 1 else 0), cmpI a.2.2.2.1 b.2.2.2.1, cmpI a.2.2.2.2 b.2.2.2.2] = cmpT a b)) := by
 intros
 kernel_rfl
theorem wp90 (a b : Stp) : wpF Tryz.prog G57 (na ()) Tryz.f90 cCmpT (a, b, ()) := by
 refine (vc90 a b).mpr ?_
 unfold cmpT
 refine ⟨fun h => ?_, fun h => ⟨by omega, ?_⟩⟩
 ·simp only [Bool.and_eq_true, beq_iff_eq, Bool.and_true] at h
  obtain ⟨h1, h2, h3, h4, h5⟩ := h
  rw [if_pos (Prod.ext h1 (Prod.ext h2 (Prod.ext h3 (Prod.ext h4 h5))))]
 ·have : a ≠ b := by
   rintro rfl
   simp at h
  rw [if_neg this]; rfl
theorem ok90 [Sx.Dr] : Ok Tryz.prog 90 cCmpT := ok_of_wp mixed g57 (by kernel_rfl) (by kernel_rfl) na fun xx => wp90 xx.1 xx.2.1
abbrev G58 : Gam := (90, cCmpT) :: G57
theorem g58 [Sx.Dr] : GamOk Tryz.prog G58 := .cons ok90 g57
def ltP (a b : Stp) : Prop := a.1 < b.1 ∨ a.1 = b.1 ∧ (a.2.1 < b.2.1 ∨ a.2.1 = b.2.1 ∧ (nb a.2.2.1 < nb b.2.2.1 ∨ nb a.2.2.1 = nb b.2.2.1 ∧ (a.2.2.2.1 < b.2.2.2.1 ∨ a.2.2.2.1 = b.2.2.2.1 ∧ a.2.2.2.2 < b.2.2.2.2)))
theorem nb_inj {a b : Bool} (h : nb a = nb b) : a = b := by cases a <;> cases b <;> first | rfl | cases h
theorem ltP_irrefl (a : Stp) : ¬ ltP a a := by unfold ltP; omega
theorem ltP_trans {a b c : Stp} (h : ltP a b) (h' : ltP b c) : ltP a c := by unfold ltP at *; omega
theorem ltP_anti {a b : Stp} (h : ¬ ltP a b) (h' : ¬ ltP b a) : a = b := by
 unfold ltP at *
 have e1 : a.1 = b.1 := by omega
 have e2 : a.2.1 = b.2.1 := by omega
 have e3 : nb a.2.2.1 = nb b.2.2.1 := by omega
 have e4 : a.2.2.2.1 = b.2.2.2.1 := by omega
 have e5 : a.2.2.2.2 = b.2.2.2.2 := by omega
 exact Prod.ext e1 (Prod.ext e2 (Prod.ext (nb_inj e3) (Prod.ext e4 e5)))
theorem ltP_ntrans {a b c : Stp} (h : ¬ ltP a b) (h' : ¬ ltP b c) : ¬ ltP a c := by unfold ltP at *; omega
theorem before_iff (a b : Stp) : beforeS a b = true ↔ ltP a b := by
 unfold beforeS ltP
 by_cases h1 : a.1 = b.1
 ·rw [if_neg (by simpa using h1)]
  by_cases h2 : a.2.1 = b.2.1
  ·rw [if_neg (by simpa using h2)]
   by_cases h3 : a.2.2.1 = b.2.2.1
   ·rw [if_neg (by simpa using h3), h3]
    by_cases h4 : a.2.2.2.1 = b.2.2.2.1
    ·rw [if_neg (by simpa using h4), decide_eq_true_iff]; omega
    ·rw [if_pos (by simpa using h4), decide_eq_true_iff]; omega
   ·rw [if_pos (by simpa using h3)]
    have key : (b.2.2.1 = true ↔ nb a.2.2.1 < nb b.2.2.1) ∧ nb a.2.2.1 ≠ nb b.2.2.1 := by
     revert h3
     cases a.2.2.1 <;> cases b.2.2.1 <;> simp [nb]
    rw [key.1]
    have := key.2
    omega
  ·rw [if_pos (by simpa using h2), decide_eq_true_iff]; omega
 ·rw [if_pos (by simpa using h1), decide_eq_true_iff]; omega
theorem cmpT_iff (a b : Stp) : cmpT a b < 0 ↔ ltP a b := by
 unfold cmpT
 split
 ·rename_i e; subst e
  exact ⟨fun h => by omega, fun h => absurd h (ltP_irrefl a)⟩
 ·unfold ltP
  simp only [firstS, cmpI]
  generalize a.1 = a1; generalize b.1 = b1
  generalize a.2.1 = a2; generalize b.2.1 = b2
  generalize nb a.2.2.1 = a3; generalize nb b.2.2.1 = b3
  generalize a.2.2.2.1 = a4; generalize b.2.2.2.1 = b4
  generalize a.2.2.2.2 = a5; generalize b.2.2.2.2 = b5
  repeat' split
  all_goals omega
theorem ltOf_T (a b : Stp) : Proofs.ltOf cmpT a b = true ↔ ltP a b := by
 unfold Proofs.ltOf; rw [decide_eq_true_iff, cmpT_iff]
theorem ltOf_F {a b : Stp} : Proofs.ltOf cmpT a b = false ↔ ¬ ltP a b := by
 rw [← ltOf_T, Bool.not_eq_true]
theorem swoT : Sort.SWO (Proofs.ltOf cmpT) where
 irrefl x := ltOf_F.2 (ltP_irrefl x)
 trans x y z h1 h2 := (ltOf_T x z).2 (ltP_trans ((ltOf_T x y).1 h1) ((ltOf_T y z).1 h2))
 ntrans x y z h1 h2 := ltOf_F.2 (ltP_ntrans (ltOf_F.1 h1) (ltOf_F.1 h2))
abbrev srtd (l : List Stp) : Prop := l.Pairwise fun a b => ¬ ltP b a
theorem insS_perm (x : Stp) : ∀ l, (insS x l).Perm (x :: l)
 | [] => .refl _
 | y :: r => by
  simp only [insS]
  split
  ·exact .refl _
  ·exact ((insS_perm x r).cons y).trans (.swap x y r)
theorem insS_sorted {x : Stp} : ∀ {l : List Stp}, srtd l → srtd (insS x l)
 | [], _ => by simp [insS]
 | y :: r, h => by
  replace h := List.pairwise_cons.1 h
  simp only [insS]
  split
  ·rename_i hb
   have hb := (before_iff x y).1 hb
   refine List.pairwise_cons.2 ⟨fun z hz => ?_, List.pairwise_cons.2 h⟩
   rcases List.mem_cons.1 hz with rfl | hz
   ·exact fun q => ltP_irrefl _ (ltP_trans hb q)
   ·exact fun q => h.1 z hz (ltP_trans q hb)
  ·rename_i hb
   have hb : ¬ ltP x y := fun q => hb ((before_iff x y).2 q)
   refine List.pairwise_cons.2 ⟨fun z hz => ?_, insS_sorted h.2⟩
   rcases List.mem_cons.1 ((insS_perm x r).mem_iff.1 hz) with rfl | hz
   ·exact hb
   ·exact h.1 z hz
theorem insAll_perm : ∀ (l o : List Stp), (insAll o l).Perm (o ++ l)
 | [], o => by simp [insAll]
 | x :: r, o => by
  simp only [insAll]
  refine (insAll_perm r (insS x o)).trans ?_
  refine ((insS_perm x o).append_right r).trans ?_
  exact List.perm_middle.symm
theorem insAll_sorted : ∀ (l : List Stp) {o : List Stp}, srtd o → srtd (insAll o l)
 | [], _, h => h
 | _ :: r, _, h => insAll_sorted r (insS_sorted h)
theorem srtd_unique : ∀ {l l' : List Stp}, l.Perm l' → srtd l → srtd l' → l = l'
 | [], l', h, _, _ => by simpa using h
 | x :: r, [], h, _, _ => by simp at h
 | x :: r, y :: r', h, h1, h2 => by
  by_cases e : x = y
  ·subst e
   rw [srtd_unique h.cons_inv (List.pairwise_cons.1 h1).2 (List.pairwise_cons.1 h2).2]
  ·have m1 : x ∈ r' := by
    have := h.mem_iff.1 (show x ∈ x :: r by simp)
    rcases List.mem_cons.1 this with q | q
    ·exact absurd q e
    ·exact q
   have m2 : y ∈ r := by
    have := h.mem_iff.2 (show y ∈ y :: r' by simp)
    rcases List.mem_cons.1 this with q | q
    ·exact absurd q.symm e
    ·exact q
   have l1 := (List.pairwise_cons.1 h1).1 y m2
   have l2 := (List.pairwise_cons.1 h2).1 x m1
   exact absurd (ltP_anti l2 l1) e
def sortT (l : List Stp) : List Stp := insAll [] l
def encT (x : Stp) : List Value := [.int .i64 x.1, .int .i64 x.2.1, .bool x.2.2.1, .int .i64 x.2.2.2.1, .int .i64 x.2.2.2.2]
theorem encT_rep (M : Nat → Prop) (w : World) (x : Stp) (cs : List Value) : Rep M w sStp x cs ↔ cs = encT x := by
 constructor
 ·rintro ⟨a, b, rfl, ha, c, d, rfl, hc, e, f, rfl, he, g, h, rfl, hg, hh⟩
  have ha : a = [.int .i64 x.1] := ha
  have hc : c = [.int .i64 x.2.1] := hc
  have he : e = [.bool x.2.2.1] := he
  have hg : g = [.int .i64 x.2.2.2.1] := hg
  have hh : h = [.int .i64 x.2.2.2.2] := hh
  subst ha; subst hc; subst he; subst hg; subst hh; rfl
 ·rintro rfl
  exact ⟨_, _, rfl, rfl, _, _, rfl, rfl, _, _, rfl, rfl, _, _, rfl, rfl, rfl⟩
instance : Inhabited (Sch.T sStp) := ⟨(0, 0, false, 0, 0)⟩
theorem cmp_call [Sx.Dr] (w : World) (x y : Stp) (hG : Sx.Good Tryz.prog w) : Calls Tryz.prog 90 #[.agg (encT x).toArray, .agg (encT y).toArray] w fun e w' => e = .returned (.int .i64 (cmpT x y)) ∧ RowKit.Below w.heap.size w w' ∧ w.drawn ≤ w'.drawn := by
 have h := (@ok90 .on).2.2.2 rfl (x, y, ()) (fun _ => False) (fun _ => False) w [.agg (encT x).toArray, .agg (encT y).toArray] (fun b hb => by rcases hb with hb | hb <;> exact hb.elim) hG.on trivial ⟨_, _, rfl, ⟨encT x, rfl, (encT_rep _ _ _ _).2 rfl⟩, _, _, rfl, ⟨encT y, rfl, (encT_rep _ _ _ _).2 rfl⟩, rfl⟩
 refine h.mono ?_
 rintro e w' ⟨M', vs, rfl, hb, _, _, hr⟩
 obtain ⟨v, vs', rfl, ⟨cs, rfl, hc⟩, hr⟩ := hr
 have hc : cs = [.int .i64 (cmpT x y)] := hc
 have hr : vs' = [] := hr
 subst hc; subst hr
 exact ⟨rfl, @Sx.Below.kit .on _ _ _ hb, hb.dr⟩
theorem sort89 (g cap : Nat) (d : Array Stp) (w : World) (hH : Sort.HoldsK encT 5 w g 0 d) (hg : g < w.heap.size) (hd : d.size < 4611686018427387904) (hc : Proofs.CmpLays Tryz.prog 90 #[] encT 5 cmpT g 0 d.size w) :
  Calls Tryz.prog 89 #[.slice (some ⟨g, 0, none⟩) d.size cap, .func (.func 90) #[] #[]] w fun e w' => e = .returned (.tuple #[]) ∧ ∃ d' n os, Sort.PermIn 0 d.size d d' ∧ Sort.SortedIn (Proofs.ltOf cmpT) 0 d.size d' ∧ w' = Proofs.sortWorldK encT 5 w g 0 n d' os := by
 have eg : ∀ args w, (callFunc 90 args).run Tryz.prog w = .ok (.enter 90 args) w := Proofs.enters_of Tryz.func90 (by kernel_rfl) rfl
 exact Proofs.AnyQ.slices_SortFunc Proofs.Tryz.sortO 5 Tryz.isAgg163 Tryz.sizeOf163 encT (fun _ => rfl) (fun x v hv => by simp [encT] at hv; rcases hv with rfl | rfl | rfl | rfl | rfl <;> rfl) cmpT swoT 90 #[] g 0 cap d w eg hc hH hg hd
theorem sort89_none (w : World) : Calls Tryz.prog 89 #[.slice none 0 0, .func (.func 90) #[] #[]] w fun e w' => e = .returned (.tuple #[]) ∧ w' = w :=
 Proofs.AnyF.slices_SortFunc_none Proofs.Tryz.sortO none 0 _ w
theorem sort_ok89 [Sx.Dr] : SortOk Tryz.prog 89 { T := 163, s := sStp, g := 90, pre := fun l => l.length ≤ 1000000, f := sortT } :=
 sort_gen (s := sStp) (T := 163) (k := 5) encT (fun _ => rfl) rfl encT_rep cmpT _ _ sort89 sort89_none cmp_call
  (fun xs ys _ hp hs => srtd_unique (hp.trans (show xs.Perm (sortT xs) from (insAll_perm xs []).symm)) (hs.imp fun h => ltOf_F.1 h) (insAll_sorted xs .nil))
  (fun xs h => h)
def cSortT : Con := { args := [], ress := [], owns := [], pre := fun _ => [False], spec := fun _ => (), srt := some { T := 163, s := sStp, g := 90, pre := fun l => l.length ≤ 1000000, f := sortT } }
theorem ok89 [Sx.Dr] : Ok Tryz.prog 89 cSortT := ⟨⟨Tryz.f89, by kernel_rfl, by kernel_rfl, by kernel_rfl⟩, fun z hz => (by cases hz; exact sort_ok89), fun F hF => (by cases hF), fun h => by cases h⟩
abbrev G59 : Gam := (89, cSortT) :: G58
theorem g59 [Sx.Dr] : GamOk Tryz.prog G59 := .cons ok89 g58
def cId88 : Con := { args := [aW], ress := [RStp], owns := [], pre := fun _ => [], spec := fun (w, _) => (w, ()) }
theorem vc88 : ∀ (w : Stp), wpF Tryz.prog G59 (na ()) Tryz.f88 cId88 (w, ()) = ((w.1, w.2.1, w.2.2.1, w.2.2.2.1, w.2.2.2.2) = w) := by
 intros
 kernel_rfl
theorem wp88 (w : Stp) : wpF Tryz.prog G59 (na ()) Tryz.f88 cId88 (w, ()) := by
 refine (vc88 w).mpr ?_
 trivial
theorem ok88 [Sx.Dr] : Ok Tryz.prog 88 cId88 := ok_of_wp mixed g59 (by kernel_rfl) (by kernel_rfl) na fun xx => wp88 xx.1
abbrev G60 : Gam := (88, cId88) :: G59
theorem g60 [Sx.Dr] : GamOk Tryz.prog G60 := .cons ok88 g59
def cMapTT : Con := { args := [.val false (.list 170 sStp), .fn [RStp] RStp], ress := [(false, .list 163 sStp)], owns := [true], pre := fun (l, (q, _), _) => [l.length ≤ 1000000, ∀ x ∈ l, conj (q (x, ()))], spec := fun (l, (_, f), _) => (l.map fun x => f (x, ()), ()) }
def vc85_0 (l : List Stp) (q : Stp × Unit → List Prop) (f : Stp × Unit → Stp) (x : Nat) := (((List.getD l x ((0 : Int), (0 : Int), false, (0 : Int), (0 : Int))).1, (List.getD l x ((0 : Int), (0 : Int), false, (0 : Int), (0 : Int))).2.1, (List.getD l x ((0 : Int), (0 : Int), false, (0 : Int), (0 : Int))).2.2.1, (List.getD l x ((0 : Int), (0 : Int), false, (0 : Int), (0 : Int))).2.2.2.1, (List.getD l x ((0 : Int), (0 : Int), false, (0 : Int), (0 : Int))).2.2.2.2), PUnit.unit)
theorem vc85 : ∀ (l : List Stp) (q : Stp × Unit → List Prop) (f : Stp × Unit → Stp), wpF Tryz.prog G60 (ann0 (annMap (170 : TypeId) (163 : TypeId) sStp l RStp true q f)) Tryz.f85 cMapTT (l, (q, f), ()) = (List.length l ≤ 1000000 → (∀ (x : Int × Int × Bool × Int × Int), x ∈ l → conj (q (x, PUnit.unit))) → ∃ (x : Nat), ((↑(List.length l) : Int) = (↑(List.length l) : Int) ∧ 0 = (↑x : Int) ∧ l = l ∧ (fun (x : (Int × Int × Bool × Int × Int) × PUnit) => q x) = q ∧ (fun (x : (Int × Int × Bool × Int × Int) × PUnit) => f x) = f ∧ List.length (List.map (fun (x : Int × Int × Bool × Int × Int) => f (x, PUnit.unit)) (List.take x l)) = 0) ∧ x ≤ List.length l ∧ ∀ (x : Nat), x ≤ List.length l → (decide ((↑x : Int) < (↑(List.length l) : Int)) = true → ((0 ≤ (↑x : Int) ∧ (↑x : Int) < (↑(List.length l) : Int)) ∧ 0 ≤ (↑x : Int) ∧ (↑x : Int) < (↑(List.length l) : Int)) ∧ (conj (q (vc85_0 l q f x)) ∧ (List.length (List.map (fun (x : Int × Int × Bool × Int × Int) => f (x, PUnit.unit)) (List.take x l)) + 1) * 40 ≤ 140737488355328) ∧ ((-9223372036854775808) ≤ (↑x : Int) + 1 ∧ (↑x : Int) + (1 : Int) ≤ 9223372036854775807) ∧ ∃ (y : Nat), ((↑(List.length l) : Int) = (↑(List.length l) : Int) ∧ (↑x : Int) + 1 = (↑y : Int) ∧ l = l ∧ (fun (x : (Int × Int × Bool × Int × Int) × PUnit) => q x) = q ∧ (fun (x : (Int × Int × Bool × Int × Int) × PUnit) => f x) = f ∧ List.map (fun (x : Int × Int × Bool × Int × Int) => f (x, PUnit.unit)) (List.take x l) ++ [((f (vc85_0 l q f x)).1, (f (vc85_0 l q f x)).2.1, (f (vc85_0 l q f x)).2.2.1, (f (vc85_0 l q f x)).2.2.2.1, (f (vc85_0 l q f x)).2.2.2.2)] = List.map (fun (x : Int × Int × Bool × Int × Int) => f (x, PUnit.unit)) (List.take y l)) ∧ y ≤ List.length l ∧ List.length l - y < List.length l - x) ∧ (decide ((↑x : Int) < (↑(List.length l) : Int)) = false → List.map (fun (x : Int × Int × Bool × Int × Int) => f (x, PUnit.unit)) (List.take x l) = List.map (fun (x : Int × Int × Bool × Int × Int) => f (x, PUnit.unit)) l)) := by
 intros
 kernel_rfl
theorem wp85 (l : List Stp) (q : Stp × Unit → List Prop) (f : Stp × Unit → Stp) : wpF Tryz.prog G60 (ann0 (annMap 170 163 sStp l RStp true q f)) Tryz.f85 cMapTT (l, (q, f), ()) := by
 refine (vc85 l q f).mpr ?_
 delta vc85_0
 intro hb hq
 refine ⟨(0 : Nat), ⟨rfl, rfl, rfl, rfl, rfl, by simp⟩, Nat.zero_le _, fun (k : Nat) hk => ⟨fun h => ?_, fun h => ?_⟩⟩
 ·have hlt : k < l.length := by simpa using h
  refine ⟨by omega, ⟨hq (l.getD k (0, 0, false, 0, 0)) (getD_mem hlt), by simp only [List.length_map, List.length_take]; omega⟩, by omega, (k + 1 : Nat), ⟨rfl, by simp, rfl, rfl, rfl, ?_⟩, by omega, by omega⟩
  rw [← take_snoc (d := (0, 0, false, 0, 0)) hlt, List.map_append]; rfl
 ·have hlt : ¬ k < l.length := by simpa using h
  rw [List.take_of_length_le (by omega)]
theorem ok85 [Sx.Dr] : Ok Tryz.prog 85 cMapTT := ok_of_wp mixed g60 (by kernel_rfl) (by kernel_rfl) (fun xx => ann0 (annMap 170 163 sStp xx.1 RStp true xx.2.1.1 xx.2.1.2)) fun xx => wp85 xx.1 xx.2.1.1 xx.2.1.2
abbrev G61 : Gam := (85, cMapTT) :: G60
theorem g61 [Sx.Dr] : GamOk Tryz.prog G61 := .cons ok85 g60
theorem winS_V {c : Cab} {f : Flt} {win : Int} (h : winS c f win = 0) : fltS c f = 0 ∧ 0 ≤ win ∧ win ≤ 1000 := by
 have h := firstS_zero (show firstS [fltS c f, withinS win 0 1000] = 0 from h)
 simp only [List.mem_cons, List.not_mem_nil, or_false, forall_eq_or_imp, forall_eq] at h
 exact ⟨h.1, within_zero.1 h.2⟩
def runP (c : Cab) (f : Flt) (win : Int) : List Stp := if winS c f win = 0 then sortT (wavesS c f win) else []
def cRun : Con := { args := [aC, aF, aI], ress := [(false, .list 163 sStp), I], owns := [], pre := fun (c, f, win, _) => [c.1.length ≤ 1000000, c.2.1.length ≤ 1000000], spec := fun (c, f, win, _) => (runP c f win, winS c f win, ()) }
abbrev annWv (c : Cab) (f : Flt) (win : Int) : Ann := { X := List Stp × List Stp, σ := fun p => ⟨16, [(0, .one (.fv 12)), (2, .one (.ptr 5 0)), (3, .one (.ptr 7 0)), (7, .one (.sl 14))], [(0, .imm 166 sPt c.1), (1, .imm 3 sI c.2.1), (5, .box 37 [.sl 0, .sl 1, .int .i64 c.2.2.1, .int .i64 c.2.2.2]), (7, .box 3 [.int .i64 (f.2.2.1 + win)]), (11, .box 171 [.sl 15]), (12, .yld .ready), (13, .sus [(2, .one (.ptr 11 0))]), (9, .sus []), (10, .sus []), (14, .ownT 170 sStp p.1), (15, .own 170 sStp p.2)]⟩, inv := fun p => (∀ w ∈ p.1, wvH c w) ∧ fltV c f ∧ (0 ≤ win ∧ win ≤ 1000) ∧ p.2 ++ runS c (f.2.2.1 + win) p.1 = wavesS c f win ∧ p.2.length + wtL p.1 ≤ 4374, mu := fun p => wtL p.1 }
def vc20_0 (c : Cab) (f : Flt) (win : Int) (x : List Stp × List Stp) := ((List.getD x.1 (0 : Nat) ((0 : Int), (0 : Int), false, (0 : Int), (0 : Int))).1, (List.getD x.1 (0 : Nat) ((0 : Int), (0 : Int), false, (0 : Int), (0 : Int))).2.1, (List.getD x.1 (0 : Nat) ((0 : Int), (0 : Int), false, (0 : Int), (0 : Int))).2.2.1, (List.getD x.1 (0 : Nat) ((0 : Int), (0 : Int), false, (0 : Int), (0 : Int))).2.2.2.1, (List.getD x.1 (0 : Nat) ((0 : Int), (0 : Int), false, (0 : Int), (0 : Int))).2.2.2.2)
theorem vc20 : ∀ (c : Cab) (f : Flt) (win : Int), wpFG Tryz.prog G61 (na ()) (fun (g : FuncId) (id : Nat) => if g = (142 : FuncId) then some (annWv c f win) else none) (Sx.look [(86, Tryz.f86), (87, Tryz.f87), (141, Tryz.f141), (142, Tryz.f142)]) Tryz.f20 cRun (c, f, win, ()) = (List.length c.1 ≤ 1000000 → List.length c.2.1 ≤ 1000000 → (List.length c.1 ≤ 1000000 ∧ List.length c.2.1 ≤ 1000000) ∧ ((winS (c.1, c.2.1, c.2.2.1, c.2.2.2) (f.1, f.2.1, f.2.2.1, f.2.2.2) win != 0) = true → true = true ∧ [] = runP c f win ∧ winS (c.1, c.2.1, c.2.2.1, c.2.2.2) (f.1, f.2.1, f.2.2.1, f.2.2.2) win = winS c f win) ∧ ((winS (c.1, c.2.1, c.2.2.1, c.2.2.2) (f.1, f.2.1, f.2.2.1, f.2.2.2) win != 0) = false → (I64 (f.2.2.1 + win)) ∧ ((-9223372036854775808) ≤ f.2.2.2 * 262144 ∧ f.2.2.2 * (262144 : Int) ≤ 9223372036854775807) ∧ ((0 ≤ f.1 ∧ f.1 < (↑(List.length c.1) : Int)) ∧ (0 ≤ f.1 ∧ f.1 < (↑(List.length c.1) : Int)) ∧ I64 ((List.getD c.1 (Int.toNat f.1) (0, 0)).2 - f.2.1)) ∧ ((I64 (f.2.2.1 + f.2.1)) ∧ (I64 (f.2.2.1 + ((List.getD c.1 (Int.toNat f.1) (0, 0)).2 - f.2.1))) ∧ (-9223372036854775808) ≤ f.1 + 1 ∧ f.1 + (1 : Int) ≤ 9223372036854775807) ∧ ∃ (x : List (Int × Int × Bool × Int × Int) × List (Int × Int × Bool × Int × Int)), (c.1 = c.1 ∧ c.2.1 = c.2.1 ∧ c.2.2.1 = c.2.2.1 ∧ c.2.2.2 = c.2.2.2 ∧ f.2.2.1 + win = f.2.2.1 + win ∧ [(f.2.2.1 + f.2.1, f.1, false, 0, f.2.2.2 * 262144), (f.2.2.1 + ((List.getD c.1 (Int.toNat f.1) (0, 0)).2 - f.2.1), f.1 + 1, true, 0, f.2.2.2 * 262144)] = x.1 ∧ List.length x.2 = 0) ∧ ((∀ (w : Stp), w ∈ x.1 → wvH c w) ∧ fltV c f ∧ (0 ≤ win ∧ win ≤ 1000) ∧ x.2 ++ runS c (f.2.2.1 + win) x.1 = wavesS c f win ∧ List.length x.2 + wtL x.1 ≤ 4374) ∧ ∀ (x : List Stp × List Stp), (∀ (w : Stp), w ∈ x.1 → wvH c w) ∧ fltV c f ∧ (0 ≤ win ∧ win ≤ 1000) ∧ x.2 ++ runS c (f.2.2.1 + win) x.1 = wavesS c f win ∧ List.length x.2 + wtL x.1 ≤ 4374 → (decide (0 < (↑(List.length x.1) : Int)) = true → (((0 : Int) ≤ 0 ∧ 0 < (↑(List.length x.1) : Int)) ∧ (0 : Int) ≤ 0 ∧ 0 < (↑(List.length x.1) : Int)) ∧ ((0 : Int) ≤ 1 ∧ 1 ≤ (↑(List.length x.1) : Int)) ∧ (decide (f.2.2.1 + win < (List.getD x.1 0 (0, 0, false, 0, 0)).1) = true → ∃ (y : List (Int × Int × Bool × Int × Int) × List (Int × Int × Bool × Int × Int)), (c.1 = c.1 ∧ c.2.1 = c.2.1 ∧ c.2.2.1 = c.2.2.1 ∧ c.2.2.2 = c.2.2.2 ∧ f.2.2.1 + win = f.2.2.1 + win ∧ List.drop 1 x.1 = y.1 ∧ x.2 = y.2) ∧ ((∀ (w : Stp), w ∈ y.1 → wvH c w) ∧ fltV c f ∧ (0 ≤ win ∧ win ≤ 1000) ∧ y.2 ++ runS c (f.2.2.1 + win) y.1 = wavesS c f win ∧ List.length y.2 + wtL y.1 ≤ 4374) ∧ wtL y.1 < wtL x.1) ∧ (decide (f.2.2.1 + win < (List.getD x.1 0 (0, 0, false, 0, 0)).1) = false → (List.length x.2 + 1) * 40 ≤ 140737488355328 ∧ (false = true → (List.length (x.2 ++ [(vc20_0 c f win x)]) ≤ 1000000 ∧ ∀ (x_1 : Int × Int × Bool × Int × Int), x_1 ∈ x.2 ++ [(vc20_0 c f win x)] → True) ∧ List.length (List.map (fun (x : Int × Int × Bool × Int × Int) => x) (x.2 ++ [(vc20_0 c f win x)])) ≤ 1000000 ∧ true = true ∧ sortT (List.map (fun (x : Int × Int × Bool × Int × Int) => x) (x.2 ++ [(vc20_0 c f win x)])) = runP c f win ∧ 0 = winS c f win) ∧ (false = false → (cabS (c.1, c.2.1, c.2.2.1, c.2.2.2) = 0 ∧ wvC (c.1, c.2.1, c.2.2.1, c.2.2.2) (vc20_0 c f win x)) ∧ (List.length (List.drop 1 x.1) + List.length (childS (c.1, c.2.1, c.2.2.1, c.2.2.2) (vc20_0 c f win x))) * 40 ≤ 140737488355328 ∧ ∃ (y : List (Int × Int × Bool × Int × Int) × List (Int × Int × Bool × Int × Int)), (c.1 = c.1 ∧ c.2.1 = c.2.1 ∧ c.2.2.1 = c.2.2.1 ∧ c.2.2.2 = c.2.2.2 ∧ f.2.2.1 + win = f.2.2.1 + win ∧ List.drop 1 x.1 ++ childS (c.1, c.2.1, c.2.2.1, c.2.2.2) (vc20_0 c f win x) = y.1 ∧ x.2 ++ [(vc20_0 c f win x)] = y.2) ∧ ((∀ (w : Stp), w ∈ y.1 → wvH c w) ∧ fltV c f ∧ (0 ≤ win ∧ win ≤ 1000) ∧ y.2 ++ runS c (f.2.2.1 + win) y.1 = wavesS c f win ∧ List.length y.2 + wtL y.1 ≤ 4374) ∧ wtL y.1 < wtL x.1))) ∧ (decide (0 < (↑(List.length x.1) : Int)) = false → (List.length x.2 ≤ 1000000 ∧ ∀ (x_1 : Int × Int × Bool × Int × Int), x_1 ∈ x.2 → True) ∧ List.length (List.map (fun (x : Int × Int × Bool × Int × Int) => x) x.2) ≤ 1000000 ∧ true = true ∧ sortT (List.map (fun (x : Int × Int × Bool × Int × Int) => x) x.2) = runP c f win ∧ 0 = winS c f win))) := by
 intros
 kernel_rfl
theorem wp20 (c : Cab) (f : Flt) (win : Int) : wpFG Tryz.prog G61 (na ()) (fun g id => if g = 142 then some (annWv c f win) else none) (Sx.look ([(86, Tryz.f86), (87, Tryz.f87), (141, Tryz.f141), (142, Tryz.f142)] : List (Nat × Func))) Tryz.f20 cRun (c, f, win, ()) := by
 refine (vc20 c f win).mpr ?_
 delta vc20_0
 delta I64
 intro h1 h2
 refine ⟨⟨h1, h2⟩, fun e => ?_, fun e => ?_⟩
 ·have e : ¬ winS c f win = 0 := bne_zero.1 e
  unfold runP; rw [if_neg e]; exact ⟨rfl, rfl, rfl⟩
 have e : winS c f win = 0 := bne_zero'.1 e
 obtain ⟨ef, hw⟩ := winS_V e
 obtain ⟨hc, hfv⟩ := fltS_V ef
 have hv := hfv.1
 obtain ⟨_, g1, g2, g3, g4, g5⟩ := id hfv
 have b := hv.2.2.1 _ (getD_mem (d := (0, 0)) (l := c.1) (k := f.1.toNat) (by omega))
 have hi := initS_H hfv
 have hlen := hv.2.1
 refine ⟨by omega, by omega, ⟨g1, g1, by omega⟩, ⟨by omega, by omega, by omega⟩, (initS c f, []), ⟨rfl, rfl, rfl, rfl, rfl, rfl, rfl⟩, ⟨hi, hfv, hw, rfl, by show 0 + wtL (initS c f) ≤ 4374; rw [initS_wt]; omega⟩, fun p hp => ?_⟩
 obtain ⟨o, out⟩ := p
 obtain ⟨p1, _, _, p2, p3⟩ := hp
 replace p2 : out ++ runS c (f.2.2.1 + win) o = wavesS c f win := p2
 replace p3 : out.length + wtL o ≤ 4374 := p3
 cases o with
 | nil =>
  refine ⟨fun h1 => by simp at h1, fun h1 => ⟨⟨by show out.length ≤ 1000000; omega, fun _ _ => trivial⟩, by show (out.map fun x => x).length ≤ 1000000; simp; omega, rfl, ?_, e.symm⟩⟩
  show sortT (out.map fun x => x) = runP c f win
  have p2 : out = wavesS c f win := by rw [← p2]; exact (List.append_nil out).symm
  unfold runP
  rw [if_pos e, ← p2, List.map_id'']
  intro x; rfl
 | cons w r =>
  have hw' : wvH c w := p1 w (by simp)
  have hr := runS_cons (last := f.2.2.1 + win) hv p1
  have hc' := child_wt (c := c) hw'.1
  have hp := wt_pos w
  have hl1 := len_wt r
  have hl2 := child_len c w
  simp only [wtL] at p3
  rw [hr] at p2
  refine ⟨fun h1 => ?_, fun h1 => by simp at h1⟩
  have l1 : 0 < ((w :: r).length : Int) := by simp only [List.length_cons]; omega
  refine ⟨⟨⟨by omega, l1⟩, by omega, l1⟩, ⟨by omega, l1⟩, fun h2 => ?_, fun h2 => ?_⟩
  ·have h2 : f.2.2.1 + win < w.1 := of_decide_eq_true h2
   rw [if_pos h2] at p2
   refine ⟨(r, out), ⟨rfl, rfl, rfl, rfl, rfl, rfl, rfl⟩, ⟨fun x hx => p1 x (by simp [hx]), hfv, hw, p2, ?_⟩, ?_⟩
   ·show out.length + wtL r ≤ 4374
    omega
   ·show wtL r < wtL (w :: r)
    simp only [wtL]; omega
  ·have h2 : ¬ f.2.2.1 + win < w.1 := of_decide_eq_false h2
   rw [if_neg h2] at p2
   refine ⟨by show (out.length + 1) * 40 ≤ 140737488355328; omega, fun h => (by cases h), fun _ => ⟨⟨hc, wvH_C hv hw'⟩, ?_, (r ++ childS c w, out ++ [w]), ⟨rfl, rfl, rfl, rfl, rfl, rfl, rfl⟩, ⟨app_H hv p1, hfv, hw, ?_, ?_⟩, ?_⟩⟩
   ·show (r.length + (childS c w).length) * 40 ≤ 140737488355328
    omega
   ·show (out ++ [w]) ++ runS c (f.2.2.1 + win) (r ++ childS c w) = wavesS c f win
    rw [List.append_assoc]; exact p2
   ·show (out ++ [w]).length + wtL (r ++ childS c w) ≤ 4374
    rw [wtL_append, List.length_append, List.length_singleton]; omega
   ·show wtL (r ++ childS c w) < wtL (w :: r)
    rw [wtL_append]; simp only [wtL]; omega
theorem ok20 [Sx.Dr] : Ok Tryz.prog 20 cRun := ok_of_wpG mixed g61 (by kernel_rfl) (by kernel_rfl) (lib_ok (List.forall_mem_cons.2 ⟨by kernel_rfl, List.forall_mem_cons.2 ⟨by kernel_rfl, List.forall_mem_cons.2 ⟨by kernel_rfl, List.forall_mem_cons.2 ⟨by kernel_rfl, by simp⟩⟩⟩⟩)) (fun xx => na ()) (fun xx => fun g id => if g = 142 then some (annWv xx.1 xx.2.1 xx.2.2.1) else none) fun xx => wp20 xx.1 xx.2.1 xx.2.2.1
abbrev G62 : Gam := (20, cRun) :: G61
theorem g62 [Sx.Dr] : GamOk Tryz.prog G62 := .cons ok20 g61
abbrev Arr : Type := Int × ByteArray × Int
abbrev sArr : Sch := .prod sI (.prod .str sI)
abbrev aA : AK := .val true sArr
theorem bl_irrefl : ∀ x : List UInt8, Op.bytesLess x x = false
 | [] => rfl
 | a :: x => by simp [Op.bytesLess, bl_irrefl x]
theorem bl_trans : ∀ {x y z : List UInt8}, Op.bytesLess x y = true → Op.bytesLess y z = true → Op.bytesLess x z = true
 | _, [], _, h, _ => by cases ‹List UInt8› <;> simp [Op.bytesLess] at h
 | _, _ :: _, [], _, h => by simp [Op.bytesLess] at h
 | [], _ :: _, _ :: _, _, _ => rfl
 | a :: x, b :: y, c :: z, h, h' => by
  simp only [Op.bytesLess, Bool.or_eq_true, decide_eq_true_eq, Bool.and_eq_true, beq_iff_eq] at h h' ⊢
  rcases h with h | ⟨rfl, h⟩
  ·rcases h' with h' | ⟨rfl, h'⟩
   ·exact .inl (UInt8.lt_trans h h')
   ·exact .inl h
  ·rcases h' with h' | ⟨rfl, h'⟩
   ·exact .inl h'
   ·exact .inr ⟨rfl, bl_trans h h'⟩
theorem bl_tri : ∀ {x y : List UInt8}, Op.bytesLess x y = false → Op.bytesLess y x = false → x = y
 | [], [], _, _ => rfl
 | [], _ :: _, h, _ => by simp [Op.bytesLess] at h
 | _ :: _, [], _, h => by simp [Op.bytesLess] at h
 | a :: x, b :: y, h, h' => by
  simp only [Op.bytesLess, Bool.or_eq_false_iff, decide_eq_false_iff_not, Bool.and_eq_false_iff, beq_eq_false_iff_ne] at h h'
  have e : a = b := UInt8.le_antisymm (UInt8.not_lt.1 h'.1) (UInt8.not_lt.1 h.1)
  subst e
  rw [bl_tri (h.2.resolve_left fun q => q rfl) (h'.2.resolve_left fun q => q rfl)]
theorem ba_ext {x y : ByteArray} (h : x.toList = y.toList) : x = y := by
 rw [Lib.toList_data, Lib.toList_data] at h
 exact ByteArray.ext (Array.ext' h)
def ltA (a b : Arr) : Prop := a.1 < b.1 ∨ a.1 = b.1 ∧ bLt a.2.1 b.2.1 = true
def cmpA (a b : Arr) : Int := firstS [cmpI a.1 b.1, cmpB a.2.1 b.2.1]
theorem ltA_irrefl (a : Arr) : ¬ ltA a a := by
 rintro (h | ⟨_, h⟩)
 ·omega
 ·unfold bLt at h; rw [bl_irrefl] at h; cases h
theorem ltA_trans {a b c : Arr} (h : ltA a b) (h' : ltA b c) : ltA a c := by
 rcases h with h | ⟨e, h⟩ <;> rcases h' with h' | ⟨e', h'⟩
 ·exact .inl (by omega)
 ·exact .inl (by omega)
 ·exact .inl (by omega)
 ·exact .inr ⟨by omega, bl_trans h h'⟩
theorem ltA_tri {a b : Arr} (h : ¬ ltA b a) (hk : ¬ (a.1 = b.1 ∧ a.2.1 = b.2.1)) : ltA a b := by
 unfold ltA at *
 by_cases e : a.1 = b.1
 ·refine .inr ⟨e, ?_⟩
  have h1 : bLt b.2.1 a.2.1 = false := by
   cases hb : bLt b.2.1 a.2.1 with
   | false => rfl
   | true => exact absurd (.inr ⟨e.symm, hb⟩) h
  cases hb : bLt a.2.1 b.2.1 with
  | true => rfl
  | false => exact absurd ⟨e, ba_ext (bl_tri hb h1)⟩ hk
 ·exact .inl (by omega)
theorem ltA_ntrans {a b c : Arr} (h : ¬ ltA a b) (h' : ¬ ltA b c) : ¬ ltA a c := by
 intro q
 by_cases e : b.1 = a.1 ∧ b.2.1 = a.2.1
 ·refine h' ?_
  unfold ltA at q ⊢
  rw [e.1, e.2]; exact q
 ·exact h' (ltA_trans (ltA_tri h e) q)
theorem cmpB_lt (x y : ByteArray) : cmpB x y < 0 ↔ bLt x y = true := by
 unfold cmpB
 split
 ·rename_i h; simp [h]
 ·rename_i h
  split <;> simp [h]
theorem cmpA_iff (a b : Arr) : cmpA a b < 0 ↔ ltA a b := by
 unfold cmpA ltA
 simp only [firstS, cmpI]
 rw [← cmpB_lt]
 generalize cmpB a.2.1 b.2.1 = q
 repeat' split
 all_goals omega
theorem ltOfA_T (a b : Arr) : Proofs.ltOf cmpA a b = true ↔ ltA a b := by
 unfold Proofs.ltOf; rw [decide_eq_true_iff, cmpA_iff]
theorem ltOfA_F {a b : Arr} : Proofs.ltOf cmpA a b = false ↔ ¬ ltA a b := by
 rw [← ltOfA_T, Bool.not_eq_true]
theorem swoA : Sort.SWO (Proofs.ltOf cmpA) where
 irrefl x := ltOfA_F.2 (ltA_irrefl x)
 trans x y z h1 h2 := (ltOfA_T x z).2 (ltA_trans ((ltOfA_T x y).1 h1) ((ltOfA_T y z).1 h2))
 ntrans x y z h1 h2 := ltOfA_F.2 (ltA_ntrans (ltOfA_F.1 h1) (ltOfA_F.1 h2))
def cCmpA : Con := { args := [aA, aA], ress := [I], owns := [], pre := fun _ => [], spec := fun (a, b, _) => (cmpA a b, ()) }
theorem vc150 : ∀ (a b : Arr), wpF Tryz.prog G62 (na ()) Tryz.f150 cCmpA (a, b, ()) = (2 ≤ 1000000 ∧ firstS [cmpI a.1 b.1, cmpB a.2.1 b.2.1] = cmpA a b) := by
 intros
 kernel_rfl
theorem wp150 (a b : Arr) : wpF Tryz.prog G62 (na ()) Tryz.f150 cCmpA (a, b, ()) := by
 refine (vc150 a b).mpr ?_
 exact ⟨by omega, rfl⟩
theorem ok150 [Sx.Dr] : Ok Tryz.prog 150 cCmpA := ok_of_wp mixed g62 (by kernel_rfl) (by kernel_rfl) na fun xx => wp150 xx.1 xx.2.1
abbrev G63 : Gam := (150, cCmpA) :: G62
theorem g63 [Sx.Dr] : GamOk Tryz.prog G63 := .cons ok150 g62
abbrev srtA (l : List Arr) : Prop := l.Pairwise ltA
abbrev keyNe (l : List Arr) : Prop := l.Pairwise fun a b => ¬ (a.1 = b.1 ∧ a.2.1 = b.2.1)
def insA (x : Arr) : List Arr → List Arr
 | [] => [x]
 | y :: r => if cmpA x y < 0 then x :: y :: r else y :: insA x r
def sortA : List Arr → List Arr
 | [] => []
 | x :: r => insA x (sortA r)
theorem insA_perm (x : Arr) : ∀ l, (insA x l).Perm (x :: l)
 | [] => .refl _
 | y :: r => by
  simp only [insA]
  split
  ·exact .refl _
  ·exact ((insA_perm x r).cons y).trans (.swap x y r)
theorem sortA_perm : ∀ l, (sortA l).Perm l
 | [] => .refl _
 | x :: r => (insA_perm x _).trans ((sortA_perm r).cons x)
theorem insA_sorted {x : Arr} : ∀ {l : List Arr}, srtA l → (∀ y ∈ l, ¬ (x.1 = y.1 ∧ x.2.1 = y.2.1)) → srtA (insA x l)
 | [], _, _ => by simp [insA]
 | y :: r, h, hne => by
  replace h := List.pairwise_cons.1 h
  simp only [insA]
  split
  ·rename_i hlt
   have hlt := (cmpA_iff x y).1 hlt
   refine List.pairwise_cons.2 ⟨fun z hz => ?_, List.pairwise_cons.2 h⟩
   rcases List.mem_cons.1 hz with rfl | hz
   ·exact hlt
   ·exact ltA_trans hlt (h.1 z hz)
  ·rename_i hlt
   have hlt : ¬ ltA x y := fun q => hlt ((cmpA_iff x y).2 q)
   refine List.pairwise_cons.2 ⟨fun z hz => ?_, insA_sorted h.2 fun z hz => hne z (by simp [hz])⟩
   rcases List.mem_cons.1 ((insA_perm x r).mem_iff.1 hz) with rfl | hz
   ·exact ltA_tri hlt fun q => hne y (by simp) ⟨q.1.symm, q.2.symm⟩
   ·exact h.1 z hz
theorem sortA_sorted : ∀ {l : List Arr}, keyNe l → srtA (sortA l)
 | [], _ => by simp [sortA]
 | x :: r, h => by
  replace h := List.pairwise_cons.1 h
  exact insA_sorted (sortA_sorted h.2) fun y hy => h.1 y ((sortA_perm r).mem_iff.1 hy)
theorem srtA_unique : ∀ {l l' : List Arr}, l.Perm l' → srtA l → srtA l' → l = l'
 | [], l', h, _, _ => by simpa using h
 | x :: r, [], h, _, _ => by simp at h
 | x :: r, y :: r', h, h1, h2 => by
  by_cases e : x = y
  ·subst e
   rw [srtA_unique h.cons_inv (List.pairwise_cons.1 h1).2 (List.pairwise_cons.1 h2).2]
  ·have m1 : x ∈ r' := by
    have := h.mem_iff.1 (show x ∈ x :: r by simp)
    rcases List.mem_cons.1 this with q | q
    ·exact absurd q e
    ·exact q
   have m2 : y ∈ r := by
    have := h.mem_iff.2 (show y ∈ y :: r' by simp)
    rcases List.mem_cons.1 this with q | q
    ·exact absurd q.symm e
    ·exact q
   exact absurd (ltA_trans ((List.pairwise_cons.1 h1).1 y m2) ((List.pairwise_cons.1 h2).1 x m1)) (ltA_irrefl _)
theorem keyNe_perm {l l' : List Arr} (h : l.Perm l') (hn : keyNe l) : keyNe l' := (List.Perm.pairwise_iff (R := fun a b : Arr => ¬ (a.1 = b.1 ∧ a.2.1 = b.2.1)) (fun q e => q ⟨e.1.symm, e.2.symm⟩) h).1 hn
theorem sorted_strict {l : List Arr} (hn : keyNe l) (h : l.Pairwise fun a b => ¬ ltA b a) : srtA l :=
 List.Pairwise.imp (fun {a b} q => ltA_tri q.2 q.1) (List.Pairwise.and hn h)
def encA (x : Arr) : List Value := [.int .i64 x.1, .string x.2.1, .int .i64 x.2.2]
theorem encA_rep (M : Nat → Prop) (w : World) (x : Arr) (cs : List Value) : Rep M w sArr x cs ↔ cs = encA x := by
 constructor
 ·rintro ⟨a, b, rfl, ha, c, d, rfl, hc, hd⟩
  have ha : a = [.int .i64 x.1] := ha
  have hc : c = [.string x.2.1] := hc
  have hd : d = [.int .i64 x.2.2] := hd
  subst ha; subst hc; subst hd; rfl
 ·rintro rfl
  exact ⟨_, _, rfl, rfl, _, _, rfl, rfl, rfl⟩
instance : Inhabited (Sch.T sArr) := ⟨(0, ⟨#[]⟩, 0)⟩
theorem cmp_callA [Sx.Dr] (w : World) (x y : Arr) (hG : Sx.Good Tryz.prog w) : Calls Tryz.prog 150 #[.agg (encA x).toArray, .agg (encA y).toArray] w fun e w' => e = .returned (.int .i64 (cmpA x y)) ∧ RowKit.Below w.heap.size w w' ∧ w.drawn ≤ w'.drawn := by
 have h := (@ok150 .on).2.2.2 rfl (x, y, ()) (fun _ => False) (fun _ => False) w [.agg (encA x).toArray, .agg (encA y).toArray] (fun b hb => by rcases hb with hb | hb <;> exact hb.elim) hG.on trivial ⟨_, _, rfl, ⟨encA x, rfl, (encA_rep _ _ _ _).2 rfl⟩, _, _, rfl, ⟨encA y, rfl, (encA_rep _ _ _ _).2 rfl⟩, rfl⟩
 refine h.mono ?_
 rintro e w' ⟨M', vs, rfl, hb, _, _, hr⟩
 obtain ⟨v, vs', rfl, ⟨cs, rfl, hc⟩, hr⟩ := hr
 have hc : cs = [.int .i64 (cmpA x y)] := hc
 have hr : vs' = [] := hr
 subst hc; subst hr
 exact ⟨rfl, @Sx.Below.kit .on _ _ _ hb, hb.dr⟩
theorem sort149 (g cap : Nat) (d : Array Arr) (w : World) (hH : Sort.HoldsK encA 3 w g 0 d) (hg : g < w.heap.size) (hd : d.size < 4611686018427387904) (hc : Proofs.CmpLays Tryz.prog 150 #[] encA 3 cmpA g 0 d.size w) :
  Calls Tryz.prog 149 #[.slice (some ⟨g, 0, none⟩) d.size cap, .func (.func 150) #[] #[]] w fun e w' => e = .returned (.tuple #[]) ∧ ∃ d' n os, Sort.PermIn 0 d.size d d' ∧ Sort.SortedIn (Proofs.ltOf cmpA) 0 d.size d' ∧ w' = Proofs.sortWorldK encA 3 w g 0 n d' os := by
 have eg : ∀ args w, (callFunc 150 args).run Tryz.prog w = .ok (.enter 150 args) w := Proofs.enters_of Tryz.func150 (by kernel_rfl) rfl
 exact Proofs.AnyQ.slices_SortFunc Proofs.Tryz.sortA 3 Tryz.isAgg107 Tryz.sizeOf107 encA (fun _ => rfl) (fun x v hv => by simp [encA] at hv; rcases hv with rfl | rfl | rfl <;> rfl) cmpA swoA 150 #[] g 0 cap d w eg hc hH hg hd
theorem sort149_none (w : World) : Calls Tryz.prog 149 #[.slice none 0 0, .func (.func 150) #[] #[]] w fun e w' => e = .returned (.tuple #[]) ∧ w' = w :=
 Proofs.AnyF.slices_SortFunc_none Proofs.Tryz.sortA none 0 _ w
abbrev preA (l : List Arr) : Prop := keyNe l ∧ l.length ≤ 1000000
theorem sort_ok149 [Sx.Dr] : SortOk Tryz.prog 149 { T := 107, s := sArr, g := 150, pre := preA, f := sortA } :=
 sort_gen (s := sArr) (T := 107) (k := 3) encA (fun _ => rfl) rfl encA_rep cmpA _ _ sort149 sort149_none cmp_callA
  (fun xs ys hx hp hs => srtA_unique (hp.trans (show List.Perm xs (sortA xs) from (sortA_perm xs).symm)) (sorted_strict (keyNe_perm (List.Perm.symm hp) hx.1) (hs.imp fun h => ltOfA_F.1 h)) (sortA_sorted hx.1))
  (fun xs h => h.2)
def cSortA : Con := { args := [], ress := [], owns := [], pre := fun _ => [False], spec := fun _ => (), srt := some { T := 107, s := sArr, g := 150, pre := preA, f := sortA } }
theorem ok149 [Sx.Dr] : Ok Tryz.prog 149 cSortA := ⟨⟨Tryz.f149, by kernel_rfl, by kernel_rfl, by kernel_rfl⟩, fun z hz => (by cases hz; exact sort_ok149), fun F hF => (by cases hF), fun h => by cases h⟩
abbrev G64 : Gam := (149, cSortA) :: G63
theorem g64 [Sx.Dr] : GamOk Tryz.prog G64 := .cons ok149 g63
set_option pp.deepTerms true
set_option pp.maxSteps 1000000
set_option maxHeartbeats 20000000
abbrev AM : Type := List (Arr × Int)
def addM (m : AM) (k : Arr) (h : Int) : AM := mpSet sArr k ((mpGet sArr k m).getD 0 + h) m
def hitM (c : Cab) (m : AM) (w : Stp) : AM := if w.2.1 = 0 then addM m (w.1, sA, 0) w.2.2.2.2 else if w.2.1 = c.1.length then addM m (w.1, sB, 0) w.2.2.2.2 else m
def sumsM (c : Cab) (l : List Stp) : AM := l.foldl (hitM c) []
def rowA (p : Arr × Int) : Arr := (p.1.1, p.1.2.1, p.2)
def arrS (c : Cab) (f : Flt) (win : Int) : List Arr := sortA ((sumsM c (wavesS c f win)).map rowA)
def seenA (m : AM) (seen : List Nat) : List Arr := seen.map fun p => rowA (m.getD p ((0, ⟨#[]⟩, 0), 0))
def cArr : Con := { args := [aC, aF, aI], ress := [(false, .list 107 sArr)], owns := [], pre := fun (c, f, win, _) => [winS c f win = 0], spec := fun (c, f, win, _) => (arrS c f win, ()) }
abbrev annAr (c : Cab) (f : Flt) (win : Int) : Ann := { X := List Stp × List Stp, σ := fun p => ⟨14, [(0, .one (.fv 11)), (2, .one (.ptr 7 0)), (3, .one (.ptr 9 0)), (7, .one (.sl 13))], [(0, .imm 166 sPt c.1), (1, .imm 3 sI c.2.1), (2, .box 37 [.sl 0, .sl 1, .int .i64 c.2.2.1, .int .i64 c.2.2.2]), (4, .mp 107 true false sArr sI (sumsM c p.2)), (5, .box 248 [.sl 4]), (7, .box 37 [.sl 0, .sl 1, .int .i64 c.2.2.1, .int .i64 c.2.2.2]), (9, .box 3 [.int .i64 (f.2.2.1 + win)]), (11, .yld .ready), (12, .sus [(3, .one (.ptr 2 0)), (7, .one (.ptr 5 0))]), (13, .ownT 170 sStp p.1)]⟩, inv := fun p => (∀ w ∈ p.1, wvH c w) ∧ (∀ w ∈ p.2, wvH c w) ∧ fltV c f ∧ (0 ≤ win ∧ win ≤ 1000) ∧ p.2 ++ runS c (f.2.2.1 + win) p.1 = wavesS c f win ∧ p.2.length + wtL p.1 ≤ 4374, mu := fun p => wtL p.1 }
abbrev annAr3 (m : AM) : Nat → Option Ann := fun i => if i = 3 then some { X := List Nat, σ := fun seen => ⟨3, [(9, .one (.sl 2)), (56, .one (.sl 1))], [(1, .mpi 0 107 true false sArr sI m seen), (0, .mp 107 true false sArr sI m), (2, .own 107 sArr (seenA m seen))]⟩, inv := fun seen => seen.Nodup ∧ (∀ p ∈ seen, p < m.length), mu := fun seen => m.length - seen.length } else none
theorem keyA_eq {k k' : Arr} : keyEq sArr k k' = true ↔ k = k' := by
 constructor
 ·intro h
  simp only [keyEq, Bool.and_eq_true, beq_iff_eq] at h
  exact Prod.ext h.1 (Prod.ext (ba_ext h.2.1) h.2.2)
 ·rintro rfl
  simp [keyEq]
theorem keyA_refl (k : Arr) : keyEq sArr k k = true := keyA_eq.2 rfl
theorem mp_get_set (k : Arr) (u : Int) : ∀ m : AM, mpGet sArr k (mpSet sArr k u m) = some u
 | [] => by simp only [mpSet, mpGet, keyA_refl, if_true]
 | x :: r => by
  simp only [mpSet]
  split
  ·simp only [mpGet, keyA_refl, if_true]
  ·rename_i h
   simp only [mpGet]
   rw [if_neg h, mp_get_set k u r]
theorem mp_get_set0 (k : Arr) (m : AM) : SV.v false [SC.int .i64 ((mpGet sArr k (mpSet sArr k ((mpGet sArr k m).getD 0) m)).getD 0)] = SV.v false [SC.int .i64 ((mpGet sArr k m).getD 0)] := by
 rw [mp_get_set]; rfl
theorem mp_put_set (k : Arr) (u v : Int) : ∀ m : AM, mpPut v (mpSet sArr k u m) (mpIdx sArr k m) = mpSet sArr k v m
 | [] => rfl
 | x :: r => by
  simp only [mpSet, mpIdx]
  split
  ·rfl
  ·simp only [mpPut]; rw [mp_put_set k u v r]
theorem mp_idx_lt (k : Arr) (u : Int) : ∀ m : AM, mpIdx sArr k m < (mpSet sArr k u m).length
 | [] => by simp [mpIdx, mpSet]
 | x :: r => by
  have := mp_idx_lt k u r
  simp only [mpSet, mpIdx]
  split
  ·simp
  ·simp only [List.length_cons]; omega
theorem mp_set_len (k : Arr) (u : Int) : ∀ m : AM, (mpSet sArr k u m).length ≤ m.length + 1
 | [] => by simp [mpSet]
 | x :: r => by
  have := mp_set_len k u r
  simp only [mpSet]
  split
  ·simp
  ·simp only [List.length_cons]; omega
theorem mp_set_mem {k : Arr} {u : Int} {p : Arr × Int} : ∀ {m : AM}, p ∈ mpSet sArr k u m → p = (k, u) ∨ p ∈ m
 | [], h => by simpa [mpSet] using h
 | x :: r, h => by
  simp only [mpSet] at h
  split at h
  ·rcases List.mem_cons.1 h with h | h
   ·exact .inl h
   ·exact .inr (by simp [h])
  ·rcases List.mem_cons.1 h with h | h
   ·exact .inr (by simp [h])
   ·rcases mp_set_mem h with h | h
    ·exact .inl h
    ·exact .inr (by simp [h])
theorem mp_get_mem {k : Arr} : ∀ {m : AM} {v : Int}, mpGet sArr k m = some v → (k, v) ∈ m
 | [], v, h => by simp [mpGet] at h
 | x :: r, v, h => by
  simp only [mpGet] at h
  split at h
  ·rename_i e
   cases h
   rw [keyA_eq.1 e]; exact List.mem_cons_self
  ·exact List.mem_cons_of_mem _ (mp_get_mem h)
theorem mp_set_keys {k : Arr} {u : Int} : ∀ {m : AM}, (m.Pairwise fun a b => a.1 ≠ b.1) → (mpSet sArr k u m).Pairwise fun a b => a.1 ≠ b.1
 | [], _ => by simp [mpSet]
 | x :: r, h => by
  replace h := List.pairwise_cons.1 h
  simp only [mpSet]
  split
  ·rename_i e
   have e := keyA_eq.1 e
   refine List.pairwise_cons.2 ⟨fun p hp => ?_, h.2⟩
   rw [e]; exact h.1 p hp
  ·rename_i e
   refine List.pairwise_cons.2 ⟨fun p hp => ?_, mp_set_keys h.2⟩
   rcases mp_set_mem hp with rfl | hp
   ·exact fun q => e (keyA_eq.2 q.symm)
   ·exact h.1 p hp
def okM (m : AM) (n : Nat) : Prop := m.length ≤ n ∧ (∀ p ∈ m, -(17179869184 * (n : Int)) ≤ p.2 ∧ p.2 ≤ 17179869184 * n) ∧ (m.Pairwise fun a b => a.1 ≠ b.1) ∧ ∀ p ∈ m, p.1.2.2 = 0
theorem get_bd {m : AM} {n : Nat} (h : okM m n) (k : Arr) : -(17179869184 * (n : Int)) ≤ (mpGet sArr k m).getD 0 ∧ (mpGet sArr k m).getD 0 ≤ 17179869184 * n := by
 cases e : mpGet sArr k m with
 | none => simp only [Option.getD_none]; omega
 | some v => exact h.2.1 _ (mp_get_mem e)
theorem addM_ok {m : AM} {n : Nat} (h : okM m n) {k : Arr} (hk : k.2.2 = 0) {v : Int} (hv : -17179869184 ≤ v ∧ v ≤ 17179869184) : okM (addM m k v) (n + 1) := by
 have hg := get_bd h k
 obtain ⟨h1, h2, h3, h4⟩ := h
 unfold addM
 refine ⟨?_, fun p hp => ?_, mp_set_keys h3, fun p hp => ?_⟩
 ·have := mp_set_len k ((mpGet sArr k m).getD 0 + v) m; omega
 ·rcases mp_set_mem hp with rfl | hp
  ·simp only; omega
  ·have := h2 p hp; omega
 ·rcases mp_set_mem hp with rfl | hp
  ·exact hk
  ·exact h4 p hp
theorem okM_mono {m : AM} {n : Nat} (h : okM m n) : okM m (n + 1) := by
 obtain ⟨h1, h2, h3, h4⟩ := h
 exact ⟨by omega, fun p hp => by have := h2 p hp; omega, h3, h4⟩
theorem hitM_ok {c : Cab} {m : AM} {n : Nat} (h : okM m n) {w : Stp} (hw : -17179869184 ≤ w.2.2.2.2 ∧ w.2.2.2.2 ≤ 17179869184) : okM (hitM c m w) (n + 1) := by
 unfold hitM
 repeat' split
 ·exact addM_ok h rfl hw
 ·exact addM_ok h rfl hw
 ·exact okM_mono h
theorem sumsM_snoc (c : Cab) (l : List Stp) (w : Stp) : sumsM c (l ++ [w]) = hitM c (sumsM c l) w := by
 unfold sumsM; rw [List.foldl_append]; rfl
theorem fold_ok {c : Cab} : ∀ {l : List Stp} {m : AM} {n : Nat}, okM m n → (∀ w ∈ l, -17179869184 ≤ w.2.2.2.2 ∧ w.2.2.2.2 ≤ 17179869184) → okM (l.foldl (hitM c) m) (n + l.length)
 | [], _, _, h, _ => h
 | w :: r, m, n, h, hl => by
  have := fold_ok (c := c) (l := r) (hitM_ok (c := c) h (hl w (by simp))) fun x hx => hl x (by simp [hx])
  rw [show n + 1 + r.length = n + (w :: r).length by simp only [List.length_cons]; omega] at this
  exact this
theorem sumsM_ok {c : Cab} {l : List Stp} (h : ∀ w ∈ l, wvH c w) : okM (sumsM c l) l.length := by
 have := fold_ok (c := c) (l := l) (m := []) (n := 0) ⟨Nat.le_refl _, fun p hp => by simp at hp, .nil, fun p hp => by simp at hp⟩ fun w hw => by
  obtain ⟨a1, _, _, a4, a5⟩ := h w hw
  have := hbN_le (h := w.2.2.2.1.toNat) (by omega)
  omega
 rwa [Nat.zero_add] at this
theorem rowA_ne {m : AM} {n : Nat} (h : okM m n) : keyNe (m.map rowA) := by
 obtain ⟨_, _, h3, h4⟩ := h
 rw [keyNe, List.pairwise_map]
 refine List.Pairwise.imp_of_mem (fun {a b} ha hb q e => q ?_) h3
 have e1 := h4 a ha
 have e2 := h4 b hb
 exact Prod.ext e.1 (Prod.ext e.2 (by rw [e1, e2]))
theorem nodup_len : ∀ (n : Nat) {l : List Nat}, l.Nodup → (∀ p ∈ l, p < n) → l.length ≤ n
 | 0, [], _, _ => Nat.le_refl _
 | 0, p :: _, _, h => by have := h p (by simp); omega
 | n + 1, l, hn, h => by
  by_cases hm : n ∈ l
  ·have ih := nodup_len n (hn.erase n) fun p hp => by
    have := (hn.mem_erase_iff).1 hp
    have h2 := h p this.2
    have := this.1
    omega
   rw [List.length_erase_of_mem hm] at ih
   omega
  ·have ih := nodup_len n hn fun p hp => by
    have h2 := h p hp
    have : p ≠ n := by rintro rfl; exact hm hp
    omega
   omega
theorem seenA_perm {m : AM} {seen : List Nat} (h1 : seen.Nodup) (h2 : ∀ p ∈ seen, p < m.length) (h3 : ∀ p, p < m.length → p ∈ seen) : (seenA m seen).Perm (m.map rowA) := by
 have hp : seen.Perm (List.range m.length) := (List.perm_ext_iff_of_nodup h1 List.nodup_range).2 fun p => ⟨fun h => List.mem_range.2 (h2 p h), fun h => h3 p (List.mem_range.1 h)⟩
 have e : m.map rowA = (List.range m.length).map fun p => rowA (m.getD p ((0, ⟨#[]⟩, 0), 0)) := by
  apply List.ext_getElem?
  intro j
  rw [List.getElem?_map, List.getElem?_map]
  by_cases hj : j < m.length
  ·rw [List.getElem?_range hj, List.getElem?_eq_getElem hj]; simp [List.getD_eq_getElem?_getD, hj]
  ·rw [List.getElem?_eq_none (by omega), List.getElem?_eq_none (by simp; omega)]; rfl
 rw [e]
 exact hp.map _
def vc91_0 (c : Cab) (f : Flt) (win : Int) (x : List Stp × List Stp) := (List.getD x.1 (0 : Nat) ((0 : Int), (0 : Int), false, (0 : Int), (0 : Int)))
def vc91_1 (c : Cab) (f : Flt) (win : Int) := (Sch.prod (Sch.int IntKind.i64) (Sch.prod Sch.str (Sch.int IntKind.i64)))
def vc91_2 (c : Cab) (f : Flt) (win : Int) (p : Nat) (x : List Nat) (y : List Nat) := (sumsM c (wavesS c f win) = sumsM c (wavesS c f win) ∧ x ++ [p] = y ∧ sumsM c (wavesS c f win) = sumsM c (wavesS c f win) ∧ seenA (sumsM c (wavesS c f win)) x ++ [((List.getD (sumsM c (wavesS c f win)) (List.getLastD (x ++ [p]) (0 : Nat)) (((0 : Int), ByteArray.mk (Array.mk []), (0 : Int)), (0 : Int))).1.1, (List.getD (sumsM c (wavesS c f win)) (List.getLastD (x ++ [p]) (0 : Nat)) (((0 : Int), ByteArray.mk (Array.mk []), (0 : Int)), (0 : Int))).1.2.1, (List.getD (sumsM c (wavesS c f win)) (List.getLastD (x ++ [p]) (0 : Nat)) (((0 : Int), ByteArray.mk (Array.mk []), (0 : Int)), (0 : Int))).2)] = seenA (sumsM c (wavesS c f win)) y)
def vc91_3 (c : Cab) (f : Flt) (win : Int) (x : List Nat) (y : List Nat) := (sumsM c (wavesS c f win) = sumsM c (wavesS c f win) ∧ x = y ∧ sumsM c (wavesS c f win) = sumsM c (wavesS c f win) ∧ seenA (sumsM c (wavesS c f win)) x ++ [((List.getD (sumsM c (wavesS c f win)) (List.getLastD x (0 : Nat)) (((0 : Int), ByteArray.mk (Array.mk []), (0 : Int)), (0 : Int))).1.1, (List.getD (sumsM c (wavesS c f win)) (List.getLastD x (0 : Nat)) (((0 : Int), ByteArray.mk (Array.mk []), (0 : Int)), (0 : Int))).1.2.1, (List.getD (sumsM c (wavesS c f win)) (List.getLastD x (0 : Nat)) (((0 : Int), ByteArray.mk (Array.mk []), (0 : Int)), (0 : Int))).2)] = seenA (sumsM c (wavesS c f win)) y)
def vc91_4 (c : Cab) (f : Flt) (win : Int) (x : List Stp × List Stp) := ((vc91_0 c f win x).1, ByteArray.mk (Array.mk [(65 : UInt8)]), (0 : Int))
def vc91_5 (c : Cab) (f : Flt) (win : Int) (x : List Stp × List Stp) := ((vc91_0 c f win x).1, ByteArray.mk (Array.mk [(66 : UInt8)]), (0 : Int))
def vc91_6 (c : Cab) (f : Flt) (win : Int) (x : List Stp × List Stp) := ((vc91_0 c f win x).1, (vc91_0 c f win x).2.1, (vc91_0 c f win x).2.2.1, (vc91_0 c f win x).2.2.2.1, (vc91_0 c f win x).2.2.2.2)
def vc91_7 (c : Cab) (f : Flt) (win : Int) (x : List Stp × List Stp) := (mpSet (vc91_1 c f win) (vc91_4 c f win x) (Option.getD (mpGet (vc91_1 c f win) (vc91_4 c f win x) (sumsM c x.2)) (0 : Int)) (sumsM c x.2))
def vc91_8 (c : Cab) (f : Flt) (win : Int) (x : List Stp × List Stp) := (mpSet (vc91_1 c f win) (vc91_5 c f win x) (Option.getD (mpGet (vc91_1 c f win) (vc91_5 c f win x) (sumsM c x.2)) (0 : Int)) (sumsM c x.2))
def vc91_9 (c : Cab) (f : Flt) (win : Int) (p : Nat) (x : List Nat) := (sumsM c (wavesS c f win) = sumsM c (wavesS c f win) ∧ (x ++ [p] = [] → False) ∧ List.getLastD (x ++ [p]) (0 : Nat) < List.length (sumsM c (wavesS c f win)))
def vc91_10 (c : Cab) (f : Flt) (win : Int) (x : List Nat) := (sumsM c (wavesS c f win) = sumsM c (wavesS c f win) ∧ (x = [] → False) ∧ List.getLastD x (0 : Nat) < List.length (sumsM c (wavesS c f win)))
def vc91_11 (c : Cab) (f : Flt) (win : Int) (x : List Nat) := (false = false → preA (seenA (sumsM c (wavesS c f win)) x) ∧ true = true ∧ sortA (seenA (sumsM c (wavesS c f win)) x) = arrS c f win)
def vc91_12 (c : Cab) (f : Flt) (win : Int) (x : List Nat) := (true = false → preA (seenA (sumsM c (wavesS c f win)) x) ∧ true = true ∧ sortA (seenA (sumsM c (wavesS c f win)) x) = arrS c f win)
def vc91_13 (c : Cab) (f : Flt) (win : Int) := (c.1, c.2.1, c.2.2.1, c.2.2.2)
def vc91_14 (c : Cab) (f : Flt) (win : Int) (x : List Nat) := (List.length (seenA (sumsM c (wavesS c f win)) x) + (1 : Nat))
theorem vc91 : ∀ (c : Cab) (f : Flt) (win : Int), wpFG Tryz.prog G64 (annAr3 (sumsM c (wavesS c f win))) (fun (g : FuncId) (id : Nat) => if g = (142 : FuncId) then some (annAr c f win) else none) (Sx.look [(87, Tryz.f87), (142, Tryz.f142)]) Tryz.f91 cArr (c, f, win, ()) = (winS c f win = 0 → ((∀ (k k' : Int × ByteArray × Int), some (k.1 == k'.1 && (ByteArray.toList k.2.1 == ByteArray.toList k'.2.1 && (k.2.2 == k'.2.2 && true))) = some (match decide (k.1 = k'.1) with | false => false | true => match List.beq (ByteArray.toList k.2.1) (ByteArray.toList k'.2.1) with | false => false | true => decide (k.2.2 = k'.2.2))) ∧ ∀ (k : Int × ByteArray × Int), true = true) ∧ (I64 (f.2.2.1 + win)) ∧ ((-9223372036854775808) ≤ f.2.2.2 * 262144 ∧ f.2.2.2 * (262144 : Int) ≤ 9223372036854775807) ∧ ((0 ≤ f.1 ∧ f.1 < (↑(List.length c.1) : Int)) ∧ (0 ≤ f.1 ∧ f.1 < (↑(List.length c.1) : Int)) ∧ I64 ((List.getD c.1 (Int.toNat f.1) (0, 0)).2 - f.2.1)) ∧ ((I64 (f.2.2.1 + f.2.1)) ∧ (I64 (f.2.2.1 + ((List.getD c.1 (Int.toNat f.1) (0, 0)).2 - f.2.1))) ∧ (-9223372036854775808) ≤ f.1 + 1 ∧ f.1 + (1 : Int) ≤ 9223372036854775807) ∧ ∃ (x : List (Int × Int × Bool × Int × Int) × List (Int × Int × Bool × Int × Int)), (c.1 = c.1 ∧ c.2.1 = c.2.1 ∧ c.2.2.1 = c.2.2.1 ∧ c.2.2.2 = c.2.2.2 ∧ [] = sumsM c x.2 ∧ c.2.2.1 = c.2.2.1 ∧ c.2.2.2 = c.2.2.2 ∧ f.2.2.1 + win = f.2.2.1 + win ∧ [(f.2.2.1 + f.2.1, f.1, false, 0, f.2.2.2 * 262144), (f.2.2.1 + ((List.getD c.1 (Int.toNat f.1) (0, 0)).2 - f.2.1), f.1 + 1, true, 0, f.2.2.2 * 262144)] = x.1) ∧ ((∀ (w : Stp), w ∈ x.1 → wvH c w) ∧ (∀ (w : Stp), w ∈ x.2 → wvH c w) ∧ fltV c f ∧ (0 ≤ win ∧ win ≤ 1000) ∧ x.2 ++ runS c (f.2.2.1 + win) x.1 = wavesS c f win ∧ List.length x.2 + wtL x.1 ≤ 4374) ∧ ∀ (x : List Stp × List Stp), (∀ (w : Stp), w ∈ x.1 → wvH c w) ∧ (∀ (w : Stp), w ∈ x.2 → wvH c w) ∧ fltV c f ∧ (0 ≤ win ∧ win ≤ 1000) ∧ x.2 ++ runS c (f.2.2.1 + win) x.1 = wavesS c f win ∧ List.length x.2 + wtL x.1 ≤ 4374 → (decide (0 < (↑(List.length x.1) : Int)) = true → (((0 : Int) ≤ 0 ∧ 0 < (↑(List.length x.1) : Int)) ∧ (0 : Int) ≤ 0 ∧ 0 < (↑(List.length x.1) : Int)) ∧ ((0 : Int) ≤ 1 ∧ 1 ≤ (↑(List.length x.1) : Int)) ∧ (decide (f.2.2.1 + win < (vc91_0 c f win x).1) = true → ∃ (y : List (Int × Int × Bool × Int × Int) × List (Int × Int × Bool × Int × Int)), (c.1 = c.1 ∧ c.2.1 = c.2.1 ∧ c.2.2.1 = c.2.2.1 ∧ c.2.2.2 = c.2.2.2 ∧ sumsM c x.2 = sumsM c y.2 ∧ c.2.2.1 = c.2.2.1 ∧ c.2.2.2 = c.2.2.2 ∧ f.2.2.1 + win = f.2.2.1 + win ∧ List.drop 1 x.1 = y.1) ∧ ((∀ (w : Stp), w ∈ y.1 → wvH c w) ∧ (∀ (w : Stp), w ∈ y.2 → wvH c w) ∧ fltV c f ∧ (0 ≤ win ∧ win ≤ 1000) ∧ y.2 ++ runS c (f.2.2.1 + win) y.1 = wavesS c f win ∧ List.length y.2 + wtL y.1 ≤ 4374) ∧ wtL y.1 < wtL x.1) ∧ (decide (f.2.2.1 + win < (vc91_0 c f win x).1) = false → (((vc91_0 c f win x).2.1 == 0) = true → (SV.v false [SC.int IntKind.i64 (Option.getD (mpGet (vc91_1 c f win) (vc91_4 c f win x) (vc91_7 c f win x)) 0)] = SV.v false [SC.int IntKind.i64 (Option.getD (mpGet (vc91_1 c f win) (vc91_4 c f win x) (sumsM c x.2)) 0)] ∧ (I64 (Option.getD (mpGet (vc91_1 c f win) (vc91_4 c f win x) (sumsM c x.2)) 0 + (vc91_0 c f win x).2.2.2.2)) ∧ 0 ≤ (↑(mpIdx (vc91_1 c f win) (vc91_4 c f win x) (sumsM c x.2)) : Int) ∧ (↑(mpIdx (vc91_1 c f win) (vc91_4 c f win x) (sumsM c x.2)) : Int) < (↑(List.length (vc91_7 c f win x)) : Int)) ∧ (false = true → ∃ (x_1 : List Nat), (mpPut (Option.getD (mpGet (vc91_1 c f win) (vc91_4 c f win x) (sumsM c x.2)) 0 + (vc91_0 c f win x).2.2.2.2) (vc91_7 c f win x) (mpIdx (vc91_1 c f win) (vc91_4 c f win x) (sumsM c x.2)) = sumsM c (wavesS c f win) ∧ [] = x_1 ∧ mpPut (Option.getD (mpGet (vc91_1 c f win) (vc91_4 c f win x) (sumsM c x.2)) 0 + (vc91_0 c f win x).2.2.2.2) (vc91_7 c f win x) (mpIdx (vc91_1 c f win) (vc91_4 c f win x) (sumsM c x.2)) = sumsM c (wavesS c f win) ∧ List.length (seenA (sumsM c (wavesS c f win)) x_1) = 0) ∧ (List.Nodup x_1 ∧ ∀ (p : Nat), p ∈ x_1 → p < List.length (sumsM c (wavesS c f win))) ∧ ∀ (x : List Nat), (List.Nodup x ∧ ∀ (p : Nat), p ∈ x → p < List.length (sumsM c (wavesS c f win))) → sumsM c (wavesS c f win) = sumsM c (wavesS c f win) ∧ (∀ (p : Nat), p < List.length (sumsM c (wavesS c f win)) → (p ∈ x → False) → (true = true → (vc91_9 c f win p x) ∧ (vc91_14 c f win x) * 32 ≤ 140737488355328 ∧ ∃ (y : List Nat), (vc91_2 c f win p x y) ∧ (List.Nodup y ∧ ∀ (p : Nat), p ∈ y → p < List.length (sumsM c (wavesS c f win))) ∧ List.length (sumsM c (wavesS c f win)) - List.length y < List.length (sumsM c (wavesS c f win)) - List.length x) ∧ (vc91_12 c f win x)) ∧ ((∀ (p : Nat), p < List.length (sumsM c (wavesS c f win)) → p ∈ x) → (false = true → (vc91_10 c f win x) ∧ (vc91_14 c f win x) * 32 ≤ 140737488355328 ∧ ∃ (y : List Nat), (vc91_3 c f win x y) ∧ (List.Nodup y ∧ ∀ (p : Nat), p ∈ y → p < List.length (sumsM c (wavesS c f win))) ∧ List.length (sumsM c (wavesS c f win)) - List.length y < List.length (sumsM c (wavesS c f win)) - List.length x) ∧ (vc91_11 c f win x))) ∧ (false = false → (cabS (vc91_13 c f win) = 0 ∧ wvC (vc91_13 c f win) (vc91_6 c f win x)) ∧ (List.length (List.drop 1 x.1) + List.length (childS (vc91_13 c f win) (vc91_6 c f win x))) * 40 ≤ 140737488355328 ∧ ∃ (y : List (Int × Int × Bool × Int × Int) × List (Int × Int × Bool × Int × Int)), (c.1 = c.1 ∧ c.2.1 = c.2.1 ∧ c.2.2.1 = c.2.2.1 ∧ c.2.2.2 = c.2.2.2 ∧ mpPut (Option.getD (mpGet (vc91_1 c f win) (vc91_4 c f win x) (sumsM c x.2)) 0 + (vc91_0 c f win x).2.2.2.2) (vc91_7 c f win x) (mpIdx (vc91_1 c f win) (vc91_4 c f win x) (sumsM c x.2)) = sumsM c y.2 ∧ c.2.2.1 = c.2.2.1 ∧ c.2.2.2 = c.2.2.2 ∧ f.2.2.1 + win = f.2.2.1 + win ∧ List.drop 1 x.1 ++ childS (vc91_13 c f win) (vc91_6 c f win x) = y.1) ∧ ((∀ (w : Stp), w ∈ y.1 → wvH c w) ∧ (∀ (w : Stp), w ∈ y.2 → wvH c w) ∧ fltV c f ∧ (0 ≤ win ∧ win ≤ 1000) ∧ y.2 ++ runS c (f.2.2.1 + win) y.1 = wavesS c f win ∧ List.length y.2 + wtL y.1 ≤ 4374) ∧ wtL y.1 < wtL x.1)) ∧ (((vc91_0 c f win x).2.1 == 0) = false → (((vc91_0 c f win x).2.1 == (↑(List.length c.1) : Int)) = true → (SV.v false [SC.int IntKind.i64 (Option.getD (mpGet (vc91_1 c f win) (vc91_5 c f win x) (vc91_8 c f win x)) 0)] = SV.v false [SC.int IntKind.i64 (Option.getD (mpGet (vc91_1 c f win) (vc91_5 c f win x) (sumsM c x.2)) 0)] ∧ (I64 (Option.getD (mpGet (vc91_1 c f win) (vc91_5 c f win x) (sumsM c x.2)) 0 + (vc91_0 c f win x).2.2.2.2)) ∧ 0 ≤ (↑(mpIdx (vc91_1 c f win) (vc91_5 c f win x) (sumsM c x.2)) : Int) ∧ (↑(mpIdx (vc91_1 c f win) (vc91_5 c f win x) (sumsM c x.2)) : Int) < (↑(List.length (vc91_8 c f win x)) : Int)) ∧ (false = true → ∃ (x_1 : List Nat), (mpPut (Option.getD (mpGet (vc91_1 c f win) (vc91_5 c f win x) (sumsM c x.2)) 0 + (vc91_0 c f win x).2.2.2.2) (vc91_8 c f win x) (mpIdx (vc91_1 c f win) (vc91_5 c f win x) (sumsM c x.2)) = sumsM c (wavesS c f win) ∧ [] = x_1 ∧ mpPut (Option.getD (mpGet (vc91_1 c f win) (vc91_5 c f win x) (sumsM c x.2)) 0 + (vc91_0 c f win x).2.2.2.2) (vc91_8 c f win x) (mpIdx (vc91_1 c f win) (vc91_5 c f win x) (sumsM c x.2)) = sumsM c (wavesS c f win) ∧ List.length (seenA (sumsM c (wavesS c f win)) x_1) = 0) ∧ (List.Nodup x_1 ∧ ∀ (p : Nat), p ∈ x_1 → p < List.length (sumsM c (wavesS c f win))) ∧ ∀ (x : List Nat), (List.Nodup x ∧ ∀ (p : Nat), p ∈ x → p < List.length (sumsM c (wavesS c f win))) → sumsM c (wavesS c f win) = sumsM c (wavesS c f win) ∧ (∀ (p : Nat), p < List.length (sumsM c (wavesS c f win)) → (p ∈ x → False) → (true = true → (vc91_9 c f win p x) ∧ (vc91_14 c f win x) * 32 ≤ 140737488355328 ∧ ∃ (y : List Nat), (vc91_2 c f win p x y) ∧ (List.Nodup y ∧ ∀ (p : Nat), p ∈ y → p < List.length (sumsM c (wavesS c f win))) ∧ List.length (sumsM c (wavesS c f win)) - List.length y < List.length (sumsM c (wavesS c f win)) - List.length x) ∧ (vc91_12 c f win x)) ∧ ((∀ (p : Nat), p < List.length (sumsM c (wavesS c f win)) → p ∈ x) → (false = true → (vc91_10 c f win x) ∧ (vc91_14 c f win x) * 32 ≤ 140737488355328 ∧ ∃ (y : List Nat), (vc91_3 c f win x y) ∧ (List.Nodup y ∧ ∀ (p : Nat), p ∈ y → p < List.length (sumsM c (wavesS c f win))) ∧ List.length (sumsM c (wavesS c f win)) - List.length y < List.length (sumsM c (wavesS c f win)) - List.length x) ∧ (vc91_11 c f win x))) ∧ (false = false → (cabS (vc91_13 c f win) = 0 ∧ wvC (vc91_13 c f win) (vc91_6 c f win x)) ∧ (List.length (List.drop 1 x.1) + List.length (childS (vc91_13 c f win) (vc91_6 c f win x))) * 40 ≤ 140737488355328 ∧ ∃ (y : List (Int × Int × Bool × Int × Int) × List (Int × Int × Bool × Int × Int)), (c.1 = c.1 ∧ c.2.1 = c.2.1 ∧ c.2.2.1 = c.2.2.1 ∧ c.2.2.2 = c.2.2.2 ∧ mpPut (Option.getD (mpGet (vc91_1 c f win) (vc91_5 c f win x) (sumsM c x.2)) 0 + (vc91_0 c f win x).2.2.2.2) (vc91_8 c f win x) (mpIdx (vc91_1 c f win) (vc91_5 c f win x) (sumsM c x.2)) = sumsM c y.2 ∧ c.2.2.1 = c.2.2.1 ∧ c.2.2.2 = c.2.2.2 ∧ f.2.2.1 + win = f.2.2.1 + win ∧ List.drop 1 x.1 ++ childS (vc91_13 c f win) (vc91_6 c f win x) = y.1) ∧ ((∀ (w : Stp), w ∈ y.1 → wvH c w) ∧ (∀ (w : Stp), w ∈ y.2 → wvH c w) ∧ fltV c f ∧ (0 ≤ win ∧ win ≤ 1000) ∧ y.2 ++ runS c (f.2.2.1 + win) y.1 = wavesS c f win ∧ List.length y.2 + wtL y.1 ≤ 4374) ∧ wtL y.1 < wtL x.1)) ∧ (((vc91_0 c f win x).2.1 == (↑(List.length c.1) : Int)) = false → (false = true → ∃ (x_1 : List Nat), (sumsM c x.2 = sumsM c (wavesS c f win) ∧ [] = x_1 ∧ sumsM c x.2 = sumsM c (wavesS c f win) ∧ List.length (seenA (sumsM c (wavesS c f win)) x_1) = 0) ∧ (List.Nodup x_1 ∧ ∀ (p : Nat), p ∈ x_1 → p < List.length (sumsM c (wavesS c f win))) ∧ ∀ (x : List Nat), (List.Nodup x ∧ ∀ (p : Nat), p ∈ x → p < List.length (sumsM c (wavesS c f win))) → sumsM c (wavesS c f win) = sumsM c (wavesS c f win) ∧ (∀ (p : Nat), p < List.length (sumsM c (wavesS c f win)) → (p ∈ x → False) → (true = true → (vc91_9 c f win p x) ∧ (vc91_14 c f win x) * 32 ≤ 140737488355328 ∧ ∃ (y : List Nat), (vc91_2 c f win p x y) ∧ (List.Nodup y ∧ ∀ (p : Nat), p ∈ y → p < List.length (sumsM c (wavesS c f win))) ∧ List.length (sumsM c (wavesS c f win)) - List.length y < List.length (sumsM c (wavesS c f win)) - List.length x) ∧ (vc91_12 c f win x)) ∧ ((∀ (p : Nat), p < List.length (sumsM c (wavesS c f win)) → p ∈ x) → (false = true → (vc91_10 c f win x) ∧ (vc91_14 c f win x) * 32 ≤ 140737488355328 ∧ ∃ (y : List Nat), (vc91_3 c f win x y) ∧ (List.Nodup y ∧ ∀ (p : Nat), p ∈ y → p < List.length (sumsM c (wavesS c f win))) ∧ List.length (sumsM c (wavesS c f win)) - List.length y < List.length (sumsM c (wavesS c f win)) - List.length x) ∧ (vc91_11 c f win x))) ∧ (false = false → (cabS (vc91_13 c f win) = 0 ∧ wvC (vc91_13 c f win) (vc91_6 c f win x)) ∧ (List.length (List.drop 1 x.1) + List.length (childS (vc91_13 c f win) (vc91_6 c f win x))) * 40 ≤ 140737488355328 ∧ ∃ (y : List (Int × Int × Bool × Int × Int) × List (Int × Int × Bool × Int × Int)), (c.1 = c.1 ∧ c.2.1 = c.2.1 ∧ c.2.2.1 = c.2.2.1 ∧ c.2.2.2 = c.2.2.2 ∧ sumsM c x.2 = sumsM c y.2 ∧ c.2.2.1 = c.2.2.1 ∧ c.2.2.2 = c.2.2.2 ∧ f.2.2.1 + win = f.2.2.1 + win ∧ List.drop 1 x.1 ++ childS (vc91_13 c f win) (vc91_6 c f win x) = y.1) ∧ ((∀ (w : Stp), w ∈ y.1 → wvH c w) ∧ (∀ (w : Stp), w ∈ y.2 → wvH c w) ∧ fltV c f ∧ (0 ≤ win ∧ win ≤ 1000) ∧ y.2 ++ runS c (f.2.2.1 + win) y.1 = wavesS c f win ∧ List.length y.2 + wtL y.1 ≤ 4374) ∧ wtL y.1 < wtL x.1))))) ∧ (decide (0 < (↑(List.length x.1) : Int)) = false → ∃ (x_1 : List Nat), (sumsM c x.2 = sumsM c (wavesS c f win) ∧ [] = x_1 ∧ sumsM c x.2 = sumsM c (wavesS c f win) ∧ List.length (seenA (sumsM c (wavesS c f win)) x_1) = 0) ∧ (List.Nodup x_1 ∧ ∀ (p : Nat), p ∈ x_1 → p < List.length (sumsM c (wavesS c f win))) ∧ ∀ (x : List Nat), (List.Nodup x ∧ ∀ (p : Nat), p ∈ x → p < List.length (sumsM c (wavesS c f win))) → sumsM c (wavesS c f win) = sumsM c (wavesS c f win) ∧ (∀ (p : Nat), p < List.length (sumsM c (wavesS c f win)) → (p ∈ x → False) → (true = true → (vc91_9 c f win p x) ∧ (vc91_14 c f win x) * 32 ≤ 140737488355328 ∧ ∃ (y : List Nat), (vc91_2 c f win p x y) ∧ (List.Nodup y ∧ ∀ (p : Nat), p ∈ y → p < List.length (sumsM c (wavesS c f win))) ∧ List.length (sumsM c (wavesS c f win)) - List.length y < List.length (sumsM c (wavesS c f win)) - List.length x) ∧ (vc91_12 c f win x)) ∧ ((∀ (p : Nat), p < List.length (sumsM c (wavesS c f win)) → p ∈ x) → (false = true → (vc91_10 c f win x) ∧ (vc91_14 c f win x) * 32 ≤ 140737488355328 ∧ ∃ (y : List Nat), (vc91_3 c f win x y) ∧ (List.Nodup y ∧ ∀ (p : Nat), p ∈ y → p < List.length (sumsM c (wavesS c f win))) ∧ List.length (sumsM c (wavesS c f win)) - List.length y < List.length (sumsM c (wavesS c f win)) - List.length x) ∧ (vc91_11 c f win x)))) := by
 intros
 kernel_rfl
theorem wp91 (c : Cab) (f : Flt) (win : Int) : wpFG Tryz.prog G64 (annAr3 (sumsM c (wavesS c f win))) (fun g id => if g = 142 then some (annAr c f win) else none) (Sx.look ([(87, Tryz.f87), (142, Tryz.f142)] : List (Nat × Func))) Tryz.f91 cArr (c, f, win, ()) := by
 refine (vc91 c f win).mpr ?_
 delta vc91_0 vc91_1 vc91_2 vc91_3 vc91_4 vc91_5 vc91_6 vc91_7 vc91_8 vc91_9 vc91_10 vc91_11 vc91_12 vc91_13 vc91_14
 delta I64
 intro h1
 obtain ⟨ef, hw⟩ := winS_V h1
 obtain ⟨hc, hfv⟩ := fltS_V ef
 have hv := hfv.1
 obtain ⟨_, g1, g2, g3, g4, g5⟩ := id hfv
 have b := hv.2.2.1 _ (getD_mem (d := (0, 0)) (l := c.1) (k := f.1.toNat) (by omega))
 have hi := initS_H hfv
 have hlen := hv.2.1
 refine ⟨⟨fun k k' => (by simp only [Bool.and_true]; rfl), fun _ => rfl⟩, by omega, by omega, ⟨g1, g1, by omega⟩, ⟨by omega, by omega, by omega⟩, (initS c f, []), ⟨rfl, rfl, rfl, rfl, rfl, rfl, rfl, rfl, rfl⟩, ⟨hi, fun w hw => (by simp at hw), hfv, hw, rfl, by show 0 + wtL (initS c f) ≤ 4374; rw [initS_wt]; omega⟩, fun p hp => ?_⟩
 obtain ⟨o, out⟩ := p
 obtain ⟨p1, p0, _, _, p2, p3⟩ := hp
 replace p2 : out ++ runS c (f.2.2.1 + win) o = wavesS c f win := p2
 replace p3 : out.length + wtL o ≤ 4374 := p3
 replace p0 : ∀ w ∈ out, wvH c w := p0
 have hm := sumsM_ok p0
 cases o with
 | nil =>
  refine ⟨fun h1 => by simp at h1, fun h1 => ?_⟩
  have p2 : out = wavesS c f win := by rw [← p2]; exact (List.append_nil out).symm
  have hm : okM (sumsM c (wavesS c f win)) out.length := by rw [← p2]; exact hm
  have p3 : out.length ≤ 4374 := by omega
  have eA : arrS c f win = sortA ((sumsM c (wavesS c f win)).map rowA) := rfl
  refine ⟨[], ⟨by rw [← p2], rfl, by rw [← p2], rfl⟩, ⟨List.nodup_nil, fun p hp => by simp at hp⟩, ?_⟩
  rw [eA]
  generalize sumsM c (wavesS c f win) = m at hm ⊢
  intro seen hs
  have hls := nodup_len m.length hs.1 hs.2
  have hlm := hm.1
  have hl2 : (seenA m seen).length = seen.length := by simp [seenA]
  refine ⟨rfl, fun p hp hps => ⟨fun _ => ?_, fun h => (by cases h)⟩, fun hall => ⟨fun h => (by cases h), fun _ => ?_⟩⟩
  ·have hl : (seen ++ [p]).getLastD 0 = p := by simp [List.getLastD_eq_getLast?]
   have hn : (seen ++ [p]).Nodup := List.nodup_append.2 ⟨hs.1, by simp, fun x hx y hy => by
    have : y = p := by simpa using hy
    subst this
    rintro rfl
    exact hps hx⟩
   have ha : ∀ q ∈ seen ++ [p], q < m.length := fun q hq => by
    rcases List.mem_append.1 hq with hq | hq
    ·exact hs.2 q hq
    ·have : q = p := by simpa using hq
     subst this; exact hp
   have hlen2 := nodup_len _ hn ha
   rw [List.length_append] at hlen2
   have hlen2 : seen.length + 1 ≤ m.length := hlen2
   rw [hl, hl2]
   refine ⟨⟨rfl, by simp, hp⟩, by omega, seen ++ [p], ⟨rfl, rfl, rfl, ?_⟩, ⟨hn, ha⟩, by rw [List.length_append]; simp; omega⟩
   simp only [seenA, List.map_append, List.map_cons, List.map_nil]
   rfl
  ·have hp := seenA_perm hs.1 hs.2 hall
   have hk := rowA_ne hm
   refine ⟨⟨keyNe_perm hp.symm hk, by omega⟩, rfl, ?_⟩
   exact srtA_unique ((sortA_perm _).trans (hp.trans (sortA_perm _).symm)) (sortA_sorted (keyNe_perm hp.symm hk)) (sortA_sorted hk)
 | cons w r =>
  have hw' : wvH c w := p1 w (by simp)
  have hr := runS_cons (last := f.2.2.1 + win) hv p1
  have hc' := child_wt (c := c) hw'.1
  have hp := wt_pos w
  have hl1 := len_wt r
  have hl2 := child_len c w
  simp only [wtL] at p3
  rw [hr] at p2
  refine ⟨fun h1 => ?_, fun h1 => by simp at h1⟩
  have l1 : 0 < ((w :: r).length : Int) := by simp only [List.length_cons]; omega
  refine ⟨⟨⟨by omega, l1⟩, by omega, l1⟩, ⟨by omega, l1⟩, fun h2 => ?_, fun h2 => ?_⟩
  ·have h2 : f.2.2.1 + win < w.1 := of_decide_eq_true h2
   rw [if_pos h2] at p2
   refine ⟨(r, out), ⟨rfl, rfl, rfl, rfl, rfl, rfl, rfl, rfl, rfl⟩, ⟨fun x hx => p1 x (by simp [hx]), p0, hfv, hw, p2, ?_⟩, ?_⟩
   ·show out.length + wtL r ≤ 4374
    omega
   ·show wtL r < wtL (w :: r)
    simp only [wtL]; omega
  ·have h2 : ¬ f.2.2.1 + win < w.1 := of_decide_eq_false h2
   rw [if_neg h2] at p2
   have f1 : (r.length + (childS c w).length) * 40 ≤ 140737488355328 := by omega
   have f2 : (out ++ [w]) ++ runS c (f.2.2.1 + win) (r ++ childS c w) = wavesS c f win := by rw [List.append_assoc]; exact p2
   have f3 : (out ++ [w]).length + wtL (r ++ childS c w) ≤ 4374 := by rw [wtL_append, List.length_append, List.length_singleton]; omega
   have f4 : wtL (r ++ childS c w) < wtL (w :: r) := by rw [wtL_append]; simp only [wtL]; omega
   have f5 : ∀ x ∈ out ++ [w], wvH c x := fun x hx => by
    rcases List.mem_append.1 hx with hx | hx
    ·exact p0 x hx
    ·simp only [List.mem_singleton] at hx; rw [hx]; exact hw'
   have hB : -17179869184 ≤ w.2.2.2.2 ∧ w.2.2.2.2 ≤ 17179869184 := by
    obtain ⟨a1, _, _, a4, a5⟩ := hw'
    have := hbN_le (h := w.2.2.2.1.toNat) (by omega)
    omega
   refine ⟨fun e0 => ?_, fun e0 => ⟨fun e1 => ?_, fun e1 => ?_⟩⟩
   ·have e0 : w.2.1 = 0 := eq_of_beq e0
    have hg := get_bd hm (w.1, sA, 0)
    refine ⟨⟨?_, ?_, Int.natCast_nonneg _, Int.ofNat_lt.2 (mp_idx_lt (w.1, sA, 0) _ _)⟩, fun h => (by cases h), fun _ => ⟨⟨hc, wvH_C hv hw'⟩, f1, (r ++ childS c w, out ++ [w]), ⟨rfl, rfl, rfl, rfl, ?_, rfl, rfl, rfl, rfl⟩, ⟨app_H hv p1, f5, hfv, hw, f2, f3⟩, f4⟩⟩
    ·exact mp_get_set0 (w.1, sA, 0) _
    ·show -9223372036854775808 ≤ (mpGet sArr (w.1, sA, 0) (sumsM c out)).getD 0 + w.2.2.2.2 ∧ (mpGet sArr (w.1, sA, 0) (sumsM c out)).getD 0 + w.2.2.2.2 ≤ 9223372036854775807
     omega
    ·rw [sumsM_snoc]
     unfold hitM addM
     rw [if_pos e0]
     exact mp_put_set (w.1, sA, 0) _ _ _
   ·have e0 : ¬ w.2.1 = 0 := by
     have e0 : (w.2.1 == 0) = false := e0
     simpa using e0
    have e1 : w.2.1 = c.1.length := eq_of_beq e1
    have hg := get_bd hm (w.1, sB, 0)
    refine ⟨⟨?_, ?_, Int.natCast_nonneg _, Int.ofNat_lt.2 (mp_idx_lt (w.1, sB, 0) _ _)⟩, fun h => (by cases h), fun _ => ⟨⟨hc, wvH_C hv hw'⟩, f1, (r ++ childS c w, out ++ [w]), ⟨rfl, rfl, rfl, rfl, ?_, rfl, rfl, rfl, rfl⟩, ⟨app_H hv p1, f5, hfv, hw, f2, f3⟩, f4⟩⟩
    ·exact mp_get_set0 (w.1, sB, 0) _
    ·show -9223372036854775808 ≤ (mpGet sArr (w.1, sB, 0) (sumsM c out)).getD 0 + w.2.2.2.2 ∧ (mpGet sArr (w.1, sB, 0) (sumsM c out)).getD 0 + w.2.2.2.2 ≤ 9223372036854775807
     omega
    ·rw [sumsM_snoc]
     unfold hitM addM
     rw [if_neg e0, if_pos e1]
     exact mp_put_set (w.1, sB, 0) _ _ _
   ·have e0 : ¬ w.2.1 = 0 := by
     have e0 : (w.2.1 == 0) = false := e0
     simpa using e0
    have e1 : ¬ w.2.1 = c.1.length := by
     have e1 : (w.2.1 == (c.1.length : Int)) = false := e1
     simpa using e1
    refine ⟨fun h => (by cases h), fun _ => ⟨⟨hc, wvH_C hv hw'⟩, f1, (r ++ childS c w, out ++ [w]), ⟨rfl, rfl, rfl, rfl, ?_, rfl, rfl, rfl, rfl⟩, ⟨app_H hv p1, f5, hfv, hw, f2, f3⟩, f4⟩⟩
    rw [sumsM_snoc]
    unfold hitM
    rw [if_neg e0, if_neg e1]
theorem ok91 [Sx.Dr] : Ok Tryz.prog 91 cArr := ok_of_wpG mixed g64 (by kernel_rfl) (by kernel_rfl) (lib_ok (List.forall_mem_cons.2 ⟨by kernel_rfl, List.forall_mem_cons.2 ⟨by kernel_rfl, by simp⟩⟩)) (fun xx => annAr3 (sumsM xx.1 (wavesS xx.1 xx.2.1 xx.2.2.1))) (fun xx => fun g id => if g = 142 then some (annAr xx.1 xx.2.1 xx.2.2.1) else none) fun xx => wp91 xx.1 xx.2.1 xx.2.2.1
abbrev G65 : Gam := (91, cArr) :: G64
theorem g65 [Sx.Dr] : GamOk Tryz.prog G65 := .cons ok91 g64
def arrP (c : Cab) (f : Flt) (win : Int) : List Arr := if winS c f win = 0 then arrS c f win else []
def cArrivals : Con := { args := [aC, aF, aI], ress := [(false, .list 107 sArr), I], owns := [], pre := fun (c, f, win, _) => [c.1.length ≤ 1000000, c.2.1.length ≤ 1000000], spec := fun (c, f, win, _) => (arrP c f win, winS c f win, ()) }
theorem vc21 : ∀ (c : Cab) (f : Flt) (win : Int), wpF Tryz.prog G65 (na ()) Tryz.f21 cArrivals (c, f, win, ()) = (List.length c.1 ≤ 1000000 → List.length c.2.1 ≤ 1000000 → (List.length c.1 ≤ 1000000 ∧ List.length c.2.1 ≤ 1000000) ∧ ((winS (c.1, c.2.1, c.2.2.1, c.2.2.2) (f.1, f.2.1, f.2.2.1, f.2.2.2) win != 0) = true → [] = arrP c f win ∧ winS (c.1, c.2.1, c.2.2.1, c.2.2.2) (f.1, f.2.1, f.2.2.1, f.2.2.2) win = winS c f win) ∧ ((winS (c.1, c.2.1, c.2.2.1, c.2.2.2) (f.1, f.2.1, f.2.2.1, f.2.2.2) win != 0) = false → winS (c.1, c.2.1, c.2.2.1, c.2.2.2) (f.1, f.2.1, f.2.2.1, f.2.2.2) win = 0 ∧ arrS (c.1, c.2.1, c.2.2.1, c.2.2.2) (f.1, f.2.1, f.2.2.1, f.2.2.2) win = arrP c f win ∧ 0 = winS c f win)) := by
 intros
 kernel_rfl
theorem wp21 (c : Cab) (f : Flt) (win : Int) : wpF Tryz.prog G65 (na ()) Tryz.f21 cArrivals (c, f, win, ()) := by
 refine (vc21 c f win).mpr ?_
 intro h1 h2
 refine ⟨⟨h1, h2⟩, fun e => ?_, fun e => ?_⟩
 ·have e : ¬ winS c f win = 0 := bne_zero.1 e
  unfold arrP; rw [if_neg e]; exact ⟨rfl, rfl⟩
 ·have e : winS c f win = 0 := bne_zero'.1 e
  unfold arrP; rw [if_pos e]; exact ⟨e, rfl, e.symm⟩
theorem ok21 [Sx.Dr] : Ok Tryz.prog 21 cArrivals := ok_of_wp mixed g65 (by kernel_rfl) (by kernel_rfl) na fun xx => wp21 xx.1 xx.2.1 xx.2.2.1
abbrev G66 : Gam := (21, cArrivals) :: G65
theorem g66 [Sx.Dr] : GamOk Tryz.prog G66 := .cons ok21 g65
set_option maxHeartbeats 20000000
set_option pp.deepTerms true
set_option pp.maxSteps 1000000
def endW (w : Stp) : ByteArray := if w.2.1 = 0 then sA else sB
def lastA (o : List Arr) : Arr := o.getD (o.length - 1) (0, ⟨#[]⟩, 0)
def stepR' (n : Int) (o : List Arr) (w : Stp) : List Arr :=
 if w.2.1 ≠ 0 ∧ w.2.1 ≠ n then o else if o ≠ [] ∧ (lastA o).1 = w.1 ∧ (lastA o).2.1 = endW w then o.set (o.length - 1) (w.1, endW w, (lastA o).2.2 + w.2.2.2.2) else o ++ [(w.1, endW w, w.2.2.2.2)]
def refA (c : Cab) (l : List Stp) : List Arr := l.foldl (stepR' c.1.length) []
abbrev dA : Arr := (0, ⟨⟨[]⟩⟩, 0)
theorem lastA_eq {o : List Arr} (h : o ≠ []) : o.getD ((o.length : Int) - 1).toNat dA = lastA o := by
 unfold lastA
 have : 0 < o.length := List.length_pos_iff.2 h
 rw [show ((o.length : Int) - 1).toNat = o.length - 1 by omega]
theorem condR {o : List Arr} {t : Int} {e : ByteArray} : (bif (bif decide (0 ≤ (o.length : Int) - 1) then ((o.getD ((o.length : Int) - 1).toNat dA).1 == t) else false) then ((o.getD ((o.length : Int) - 1).toNat dA).2.1.toList == e.toList) else false) = true ↔ o ≠ [] ∧ (lastA o).1 = t ∧ (lastA o).2.1 = e := by
 by_cases h : o = []
 ·subst h; simp
 ·have hp : 0 < o.length := List.length_pos_iff.2 h
  rw [decide_eq_true (by omega : 0 ≤ (o.length : Int) - 1), lastA_eq h]
  simp only [cond_true]
  cases h1 : ((lastA o).1 == t) with
  | false => simp at h1 ⊢; intro _ q; exact absurd q h1
  | true =>
   have h1 := eq_of_beq h1
   simp only [cond_true, beq_iff_eq]
   exact ⟨fun q => ⟨h, h1, ba_ext q⟩, fun q => by rw [q.2.2]⟩
theorem condR' {o : List Arr} {t : Int} {e : ByteArray} : (bif (bif decide (0 ≤ (o.length : Int) - 1) then ((o.getD ((o.length : Int) - 1).toNat dA).1 == t) else false) then ((o.getD ((o.length : Int) - 1).toNat dA).2.1.toList == e.toList) else false) = false ↔ ¬ (o ≠ [] ∧ (lastA o).1 = t ∧ (lastA o).2.1 = e) := by
 rw [← condR (o := o) (t := t) (e := e), Bool.not_eq_true]
theorem last_mem {o : List Arr} (h : o ≠ []) : lastA o ∈ o := by
 unfold lastA
 have : 0 < o.length := List.length_pos_iff.2 h
 exact getD_mem (by omega)
def okR (o : List Arr) (n : Nat) : Prop := o.length ≤ n ∧ ∀ a ∈ o, -(17179869184 * (n : Int)) ≤ a.2.2 ∧ a.2.2 ≤ 17179869184 * n
theorem stepR_ok {m : Int} {o : List Arr} {n : Nat} (h : okR o n) {w : Stp} (hw : -17179869184 ≤ w.2.2.2.2 ∧ w.2.2.2.2 ≤ 17179869184) : okR (stepR' m o w) (n + 1) := by
 obtain ⟨h1, h2⟩ := h
 unfold stepR'
 split
 ·exact ⟨by omega, fun a ha => by have := h2 a ha; omega⟩
 ·split
  ·rename_i hc
   have hb := h2 _ (last_mem hc.1)
   refine ⟨by simp; omega, fun a ha => ?_⟩
   rcases List.mem_or_eq_of_mem_set ha with ha | rfl
   ·have := h2 a ha; omega
   ·simp only; omega
  ·refine ⟨by simp; omega, fun a ha => ?_⟩
   rcases List.mem_append.1 ha with ha | ha
   ·have := h2 a ha; omega
   ·simp only [List.mem_singleton] at ha; subst ha; simp only; omega
theorem foldR_ok {m : Int} : ∀ {l : List Stp} {o : List Arr} {n : Nat}, okR o n → (∀ w ∈ l, -17179869184 ≤ w.2.2.2.2 ∧ w.2.2.2.2 ≤ 17179869184) → okR (l.foldl (stepR' m) o) (n + l.length)
 | [], _, _, h, _ => h
 | w :: r, o, n, h, hl => by
  have := foldR_ok (m := m) (l := r) (stepR_ok (m := m) h (hl w (by simp))) fun x hx => hl x (by simp [hx])
  rw [show n + 1 + r.length = n + (w :: r).length by simp only [List.length_cons]; omega] at this
  exact this
theorem wvH_ht {c : Cab} {w : Stp} (h : wvH c w) : -17179869184 ≤ w.2.2.2.2 ∧ w.2.2.2.2 ≤ 17179869184 := by
 obtain ⟨a1, _, _, a4, a5⟩ := h
 have := hbN_le (h := w.2.2.2.1.toNat) (by omega)
 omega
theorem refA_ok {c : Cab} {l : List Stp} (h : ∀ w ∈ l, wvH c w) : okR (refA c l) l.length := by
 have := foldR_ok (m := c.1.length) (l := l) (o := []) (n := 0) ⟨Nat.le_refl _, fun p hp => by simp at hp⟩ fun w hw => wvH_ht (h w hw)
 rwa [Nat.zero_add] at this
theorem refA_snoc (c : Cab) (l : List Stp) (w : Stp) : refA c (l ++ [w]) = stepR' c.1.length (refA c l) w := by
 unfold refA; rw [List.foldl_append]; rfl
theorem waves_H {c : Cab} {f : Flt} {win : Int} (h : fltV c f) : (∀ w ∈ wavesS c f win, wvH c w ∧ w.1 ≤ f.2.2.1 + win) ∧ (wavesS c f win).length ≤ 4374 :=
 ⟨bfs_H h.1 (initS_H h), by have := bfs_len (last := f.2.2.1 + win) h.1 (initS_H h) (Nat.le_refl _); rw [initS_wt] at this; exact this⟩
theorem runR_H {c : Cab} {f : Flt} {win : Int} (h : fltV c f) : (∀ w ∈ runR c f win, wvH c w ∧ w.1 ≤ f.2.2.1 + win) ∧ (runR c f win).length ≤ 4374 := by
 have hp : (runR c f win).Perm (wavesS c f win) := insAll_perm (wavesS c f win) []
 have hw := waves_H (win := win) h
 exact ⟨fun w hm => hw.1 w (hp.mem_iff.1 hm), by rw [hp.length_eq]; exact hw.2⟩
def cArrR : Con := { args := [aCR, aF, aI], ress := [(false, .list 130 sArr)], owns := [], pre := fun (c, f, win, _) => [winS c f win = 0], spec := fun (c, f, win, _) => (refA c (runR c f win), ()) }
abbrev annArR (c : Cab) (f : Flt) (win : Int) : Ann := { X := Nat, σ := fun k => ⟨6, [(3, .one (.ptr 2 0)), (7, .one (.sl 4)), (8, .one (.sl 5)), (9, .one (.int .i64 k))], [(0, .imm 102 sPt c.1), (1, .imm 3 sI c.2.1), (2, .box 26 [.sl 0, .sl 1, .int .i64 c.2.2.1, .int .i64 c.2.2.2]), (4, .own 130 sArr (refA c ((runR c f win).take k))), (5, .own 186 sStp (runR c f win))]⟩, inv := fun k => k ≤ (runR c f win).length, mu := fun k => (runR c f win).length - k }
def vc28_0 (c : Cab) (f : Flt) (win : Int) (x : Nat) := (↑(List.length (refA c (List.take x (runR c f win)))) : Int)
def vc28_1 (c : Cab) (f : Flt) (win : Int) (x : Nat) := (List.getD (refA c (List.take x (runR c f win))) (Int.toNat ((vc28_0 c f win x) - (1 : Int))) ((0 : Int), ByteArray.mk (Array.mk []), (0 : Int)))
def vc28_2 (c : Cab) (f : Flt) (win : Int) (x : Nat) := (List.getD (runR c f win) x ((0 : Int), (0 : Int), false, (0 : Int), (0 : Int)))
def vc28_3 (c : Cab) (f : Flt) (win : Int) (x : Nat) := ((decide ((0 : Int) ≤ (vc28_0 c f win x) - (1 : Int)) = true → (0 : Int) ≤ (vc28_0 c f win x) - (1 : Int) ∧ (vc28_0 c f win x) - (1 : Int) < (vc28_0 c f win x)) ∧ (decide ((0 : Int) ≤ (vc28_0 c f win x) - (1 : Int)) = true → (0 : Int) ≤ (vc28_0 c f win x) - (1 : Int) ∧ (vc28_0 c f win x) - (1 : Int) < (vc28_0 c f win x)) ∧ (decide ((0 : Int) ≤ (vc28_0 c f win x) - (1 : Int)) = true → (0 : Int) ≤ (↑x : Int) ∧ (↑x : Int) < (↑(List.length (runR c f win)) : Int)) ∧ (decide ((0 : Int) ≤ (vc28_0 c f win x) - (1 : Int)) = true → (0 : Int) ≤ (↑x : Int) ∧ (↑x : Int) < (↑(List.length (runR c f win)) : Int)) ∧ ((bif decide ((0 : Int) ≤ (vc28_0 c f win x) - (1 : Int)) then (vc28_1 c f win x).1 == (vc28_2 c f win x).1 else false) = true → (0 : Int) ≤ (vc28_0 c f win x) - (1 : Int) ∧ (vc28_0 c f win x) - (1 : Int) < (vc28_0 c f win x)) ∧ ((bif decide ((0 : Int) ≤ (vc28_0 c f win x) - (1 : Int)) then (vc28_1 c f win x).1 == (vc28_2 c f win x).1 else false) = true → (0 : Int) ≤ (vc28_0 c f win x) - (1 : Int) ∧ (vc28_0 c f win x) - (1 : Int) < (vc28_0 c f win x)))
def vc28_4 (c : Cab) (f : Flt) (win : Int) (x : Nat) := ((0 : Int) ≤ (↑x : Int) ∧ (↑x : Int) < (↑(List.length (runR c f win)) : Int))
def vc28_5 (c : Cab) (f : Flt) (win : Int) (x : Nat) := (((0 : Int) ≤ (vc28_0 c f win x) - (1 : Int) ∧ (vc28_0 c f win x) - (1 : Int) < (vc28_0 c f win x)) ∧ ((0 : Int) ≤ (vc28_0 c f win x) - (1 : Int) ∧ (vc28_0 c f win x) - (1 : Int) < (vc28_0 c f win x)) ∧ (vc28_4 c f win x) ∧ (vc28_4 c f win x) ∧ ((-9223372036854775808 : Int) ≤ (vc28_1 c f win x).2.2 + (vc28_2 c f win x).2.2.2.2 ∧ (vc28_1 c f win x).2.2 + (vc28_2 c f win x).2.2.2.2 ≤ (9223372036854775807 : Int)) ∧ ((0 : Int) ≤ (vc28_0 c f win x) - (1 : Int) ∧ (vc28_0 c f win x) - (1 : Int) < (vc28_0 c f win x)) ∧ (0 : Int) ≤ (vc28_0 c f win x) - (1 : Int) ∧ (vc28_0 c f win x) - (1 : Int) < (vc28_0 c f win x))
def vc28_6 (c : Cab) (f : Flt) (win : Int) (x : Nat) := ((-9223372036854775808 : Int) ≤ (↑x : Int) + (1 : Int) ∧ (↑x : Int) + (1 : Int) ≤ (9223372036854775807 : Int))
def vc28_7 (c : Cab) (f : Flt) (win : Int) (x : Nat) (y : Nat) := ((↑x : Int) + (1 : Int) = (↑y : Int) ∧ c.1 = c.1 ∧ c.2.1 = c.2.1 ∧ c.2.2.1 = c.2.2.1 ∧ c.2.2.2 = c.2.2.2 ∧ List.set (refA c (List.take x (runR c f win))) (Int.toNat ((vc28_0 c f win x) - (1 : Int))) ((vc28_1 c f win x).1, (vc28_1 c f win x).2.1, (vc28_1 c f win x).2.2 + (vc28_2 c f win x).2.2.2.2) = refA c (List.take y (runR c f win)) ∧ runR c f win = runR c f win)
def vc28_8 (c : Cab) (f : Flt) (win : Int) (x : Nat) := (((vc28_2 c f win x).2.1 != (0 : Int)) = true → (0 : Int) ≤ (↑x : Int) ∧ (↑x : Int) < (↑(List.length (runR c f win)) : Int))
def vc28_9 (c : Cab) (f : Flt) (win : Int) (x : Nat) := (bif (vc28_2 c f win x).2.1 != (0 : Int) then (vc28_2 c f win x).2.1 != (↑(List.length c.1) : Int) else false)
def vc28_10 (c : Cab) (f : Flt) (win : Int) (x : Nat) := (bif bif decide ((0 : Int) ≤ (vc28_0 c f win x) - (1 : Int)) then (vc28_1 c f win x).1 == (vc28_2 c f win x).1 else false then ByteArray.toList (vc28_1 c f win x).2.1 == ByteArray.toList (ByteArray.mk (Array.mk [(66 : UInt8)])) else false)
def vc28_11 (c : Cab) (f : Flt) (win : Int) (x : Nat) := (bif bif decide ((0 : Int) ≤ (vc28_0 c f win x) - (1 : Int)) then (vc28_1 c f win x).1 == (vc28_2 c f win x).1 else false then ByteArray.toList (vc28_1 c f win x).2.1 == ByteArray.toList (ByteArray.mk (Array.mk [(65 : UInt8)])) else false)
def vc28_12 (c : Cab) (f : Flt) (win : Int) (x : Nat) (y : Nat) := ((↑x : Int) + (1 : Int) = (↑y : Int) ∧ c.1 = c.1 ∧ c.2.1 = c.2.1 ∧ c.2.2.1 = c.2.2.1 ∧ c.2.2.2 = c.2.2.2 ∧ refA c (List.take x (runR c f win)) = refA c (List.take y (runR c f win)) ∧ runR c f win = runR c f win)
theorem vc28 : ∀ (c : Cab) (f : Flt) (win : Int), wpF Tryz.prog G66 (ann0 (annArR c f win)) Tryz.f28 cArrR (c, f, win, ()) = (winS c f win = 0 → (fltS (c.1, c.2.1, c.2.2.1, c.2.2.2) (f.1, f.2.1, f.2.2.1, f.2.2.2) = 0 ∧ 0 ≤ win ∧ win ≤ 1000) ∧ ∃ (x : Nat), (0 = (↑x : Int) ∧ c.1 = c.1 ∧ c.2.1 = c.2.1 ∧ c.2.2.1 = c.2.2.1 ∧ c.2.2.2 = c.2.2.2 ∧ List.length (refA c (List.take x (runR c f win))) = 0 ∧ runR (c.1, c.2.1, c.2.2.1, c.2.2.2) (f.1, f.2.1, f.2.2.1, f.2.2.2) win = runR c f win) ∧ x ≤ List.length (runR c f win) ∧ ∀ (x : Nat), x ≤ List.length (runR c f win) → (decide ((↑x : Int) < (↑(List.length (runR c f win)) : Int)) = true → ((vc28_4 c f win x) ∧ 0 ≤ (↑x : Int) ∧ (↑x : Int) < (↑(List.length (runR c f win)) : Int)) ∧ (((vc28_2 c f win x).2.1 != 0) = true → ((vc28_4 c f win x) ∧ (vc28_4 c f win x) ∧ (vc28_8 c f win x) ∧ (vc28_8 c f win x)) ∧ ((vc28_9 c f win x) = true → (vc28_6 c f win x) ∧ ∃ (y : Nat), (vc28_12 c f win x y) ∧ y ≤ List.length (runR c f win) ∧ List.length (runR c f win) - y < List.length (runR c f win) - x) ∧ ((vc28_9 c f win x) = false → ((-9223372036854775808) ≤ (vc28_0 c f win x) - 1 ∧ (vc28_0 c f win x) - (1 : Int) ≤ 9223372036854775807) ∧ (vc28_3 c f win x) ∧ ((vc28_10 c f win x) = true → (vc28_5 c f win x) ∧ (vc28_6 c f win x) ∧ ∃ (y : Nat), (vc28_7 c f win x y) ∧ y ≤ List.length (runR c f win) ∧ List.length (runR c f win) - y < List.length (runR c f win) - x) ∧ ((vc28_10 c f win x) = false → ((vc28_4 c f win x) ∧ (vc28_4 c f win x) ∧ (vc28_4 c f win x) ∧ (vc28_4 c f win x) ∧ (List.length (refA c (List.take x (runR c f win))) + 1) * 32 ≤ 140737488355328) ∧ (vc28_6 c f win x) ∧ ∃ (y : Nat), ((↑x : Int) + 1 = (↑y : Int) ∧ c.1 = c.1 ∧ c.2.1 = c.2.1 ∧ c.2.2.1 = c.2.2.1 ∧ c.2.2.2 = c.2.2.2 ∧ refA c (List.take x (runR c f win)) ++ [((vc28_2 c f win x).1, ByteArray.mk (Array.mk [(66 : UInt8)]), (vc28_2 c f win x).2.2.2.2)] = refA c (List.take y (runR c f win)) ∧ runR c f win = runR c f win) ∧ y ≤ List.length (runR c f win) ∧ List.length (runR c f win) - y < List.length (runR c f win) - x))) ∧ (((vc28_2 c f win x).2.1 != 0) = false → ((vc28_4 c f win x) ∧ (vc28_4 c f win x) ∧ (vc28_8 c f win x) ∧ (vc28_8 c f win x)) ∧ ((vc28_9 c f win x) = true → (vc28_6 c f win x) ∧ ∃ (y : Nat), (vc28_12 c f win x y) ∧ y ≤ List.length (runR c f win) ∧ List.length (runR c f win) - y < List.length (runR c f win) - x) ∧ ((vc28_9 c f win x) = false → ((-9223372036854775808) ≤ (vc28_0 c f win x) - 1 ∧ (vc28_0 c f win x) - (1 : Int) ≤ 9223372036854775807) ∧ (vc28_3 c f win x) ∧ ((vc28_11 c f win x) = true → (vc28_5 c f win x) ∧ (vc28_6 c f win x) ∧ ∃ (y : Nat), (vc28_7 c f win x y) ∧ y ≤ List.length (runR c f win) ∧ List.length (runR c f win) - y < List.length (runR c f win) - x) ∧ ((vc28_11 c f win x) = false → ((vc28_4 c f win x) ∧ (vc28_4 c f win x) ∧ (vc28_4 c f win x) ∧ (vc28_4 c f win x) ∧ (List.length (refA c (List.take x (runR c f win))) + 1) * 32 ≤ 140737488355328) ∧ (vc28_6 c f win x) ∧ ∃ (y : Nat), ((↑x : Int) + 1 = (↑y : Int) ∧ c.1 = c.1 ∧ c.2.1 = c.2.1 ∧ c.2.2.1 = c.2.2.1 ∧ c.2.2.2 = c.2.2.2 ∧ refA c (List.take x (runR c f win)) ++ [((vc28_2 c f win x).1, ByteArray.mk (Array.mk [(65 : UInt8)]), (vc28_2 c f win x).2.2.2.2)] = refA c (List.take y (runR c f win)) ∧ runR c f win = runR c f win) ∧ y ≤ List.length (runR c f win) ∧ List.length (runR c f win) - y < List.length (runR c f win) - x)))) ∧ (decide ((↑x : Int) < (↑(List.length (runR c f win)) : Int)) = false → refA c (List.take x (runR c f win)) = refA c (runR c f win))) := by
 intros
 kernel_rfl
theorem wp28 (c : Cab) (f : Flt) (win : Int) : wpF Tryz.prog G66 (ann0 (annArR c f win)) Tryz.f28 cArrR (c, f, win, ()) := by
 refine (vc28 c f win).mpr ?_
 delta vc28_0 vc28_1 vc28_2 vc28_3 vc28_4 vc28_5 vc28_6 vc28_7 vc28_8 vc28_9 vc28_10 vc28_11 vc28_12
 intro h1
 obtain ⟨ef, hw⟩ := winS_V h1
 obtain ⟨hc, hfv⟩ := fltS_V ef
 obtain ⟨hH, hL⟩ := runR_H (win := win) hfv
 refine ⟨⟨ef, hw⟩, (0 : Nat), ⟨rfl, rfl, rfl, rfl, rfl, rfl, rfl⟩, Nat.zero_le _, fun (k : Nat) hk => ⟨fun e => ?_, fun e => ?_⟩⟩
 ·have hlt : k < (runR c f win).length := by simpa using e
  have hs : refA c ((runR c f win).take (k + 1)) = stepR' c.1.length (refA c ((runR c f win).take k)) ((runR c f win).getD k (0, 0, false, 0, 0)) := by
   rw [← take_snoc (d := (0, 0, false, 0, 0)) hlt, refA_snoc]
  have ho := refA_ok (c := c) (l := (runR c f win).take k) fun w hw => (hH w (List.mem_of_mem_take hw)).1
  have hww := wvH_ht (hH _ (getD_mem (d := (0, 0, false, 0, 0)) hlt)).1
  have hkl : ((runR c f win).take k).length ≤ 4374 := by simp; omega
  generalize ((runR c f win).take k).length = n at ho hkl
  generalize refA c ((runR c f win).take k) = o at *
  generalize (runR c f win).getD k (0, 0, false, 0, 0) = w at *
  obtain ⟨o1, o2⟩ := ho
  have kk : (0 ≤ (k : Int) ∧ (k : Int) < (runR c f win).length) := by omega
  have nx : ∀ o', stepR' c.1.length o w = o' → ∃ y : Nat, ((k : Int) + 1 = y ∧ c.1 = c.1 ∧ c.2.1 = c.2.1 ∧ c.2.2.1 = c.2.2.1 ∧ c.2.2.2 = c.2.2.2 ∧ o' = refA c ((runR c f win).take y) ∧ runR c f win = runR c f win) ∧ y ≤ (runR c f win).length ∧ (runR c f win).length - y < (runR c f win).length - k := fun o' ho' =>
   ⟨k + 1, ⟨by simp, rfl, rfl, rfl, rfl, by rw [hs, ho'], rfl⟩, by omega, by omega⟩
  have lo : o ≠ [] → 0 ≤ (o.length : Int) - 1 ∧ (o.length : Int) - 1 < o.length := fun h => by
   have : 0 < o.length := List.length_pos_iff.2 h
   omega
  have ld : decide (0 ≤ (o.length : Int) - 1) = true → 0 ≤ (o.length : Int) - 1 ∧ (o.length : Int) - 1 < o.length := fun h => by
   have := of_decide_eq_true h; omega
  have lb : ∀ b : Bool, (bif decide (0 ≤ (o.length : Int) - 1) then b else false) = true → 0 ≤ (o.length : Int) - 1 ∧ (o.length : Int) - 1 < o.length := fun b h => by
   cases hd : decide (0 ≤ (o.length : Int) - 1) with
   | false => rw [hd] at h; cases h
   | true => exact ld hd
  have hb : ∀ h : o ≠ [], -9223372036854775808 ≤ (o.getD ((o.length : Int) - 1).toNat dA).2.2 + w.2.2.2.2 ∧ (o.getD ((o.length : Int) - 1).toNat dA).2.2 + w.2.2.2.2 ≤ 9223372036854775807 := fun h => by
   rw [lastA_eq h]
   have := o2 _ (last_mem h); omega
  have body : ∀ e : ByteArray, endW w = e → ¬ (w.2.1 ≠ 0 ∧ w.2.1 ≠ c.1.length) → _ := fun e he hn => And.intro
   (fun h : o ≠ [] ∧ (lastA o).1 = w.1 ∧ (lastA o).2.1 = e => (show stepR' c.1.length o w = o.set ((o.length : Int) - 1).toNat ((o.getD ((o.length : Int) - 1).toNat dA).1, (o.getD ((o.length : Int) - 1).toNat dA).2.1, (o.getD ((o.length : Int) - 1).toNat dA).2.2 + w.2.2.2.2) by
    unfold stepR'
    have : 0 < o.length := List.length_pos_iff.2 h.1
    rw [if_neg hn, he, if_pos h, lastA_eq h.1, h.2.1, h.2.2, show ((o.length : Int) - 1).toNat = o.length - 1 by omega]))
   (fun h : ¬ (o ≠ [] ∧ (lastA o).1 = w.1 ∧ (lastA o).2.1 = e) => (show stepR' c.1.length o w = o ++ [(w.1, e, w.2.2.2.2)] by
    unfold stepR'
    rw [if_neg hn, he, if_neg h]))
  refine ⟨⟨kk, kk⟩, fun e0 => ⟨⟨kk, kk, fun _ => kk, fun _ => kk⟩, fun e1 => ?_, fun e1 => ?_⟩, fun e0 => ⟨⟨kk, kk, fun _ => kk, fun _ => kk⟩, fun e1 => ?_, fun e1 => ?_⟩⟩
  ·have e0 : w.2.1 ≠ 0 := bne_iff_ne.1 e0
   rw [bne_iff_ne.2 e0] at e1
   have e1 : w.2.1 ≠ c.1.length := bne_iff_ne.1 e1
   exact ⟨by omega, nx o (by unfold stepR'; rw [if_pos ⟨e0, e1⟩])⟩
  ·have e0 : w.2.1 ≠ 0 := bne_iff_ne.1 e0
   rw [bne_iff_ne.2 e0] at e1
   have e1 : w.2.1 = c.1.length := bne_eq_false_iff_eq.1 e1
   have hB := body sB (by unfold endW; rw [if_neg e0]) (fun q => q.2 e1)
   refine ⟨by omega, ⟨ld, ld, fun _ => kk, fun _ => kk, lb _, lb _⟩, fun h => ?_, fun h => ?_⟩
   ·have h := condR.1 h
    exact ⟨⟨lo h.1, lo h.1, kk, kk, hb h.1, lo h.1, lo h.1⟩, by omega, nx _ (hB.1 h)⟩
   ·have h := condR'.1 h
    exact ⟨⟨kk, kk, kk, kk, by omega⟩, by omega, nx _ (hB.2 h)⟩
  ·have e0 : w.2.1 = 0 := bne_eq_false_iff_eq.1 e0
   rw [bne_eq_false_iff_eq.2 e0] at e1
   cases e1
  ·have e0 : w.2.1 = 0 := bne_eq_false_iff_eq.1 e0
   have hB := body sA (by unfold endW; rw [if_pos e0]) (fun q => q.1 e0)
   refine ⟨by omega, ⟨ld, ld, fun _ => kk, fun _ => kk, lb _, lb _⟩, fun h => ?_, fun h => ?_⟩
   ·have h := condR.1 h
    exact ⟨⟨lo h.1, lo h.1, kk, kk, hb h.1, lo h.1, lo h.1⟩, by omega, nx _ (hB.1 h)⟩
   ·have h := condR'.1 h
    exact ⟨⟨kk, kk, kk, kk, by omega⟩, by omega, nx _ (hB.2 h)⟩
 ·have hge : ¬ k < (runR c f win).length := by simpa using e
  rw [List.take_of_length_le (by omega)]
theorem ok28 [Sx.Dr] : Ok Tryz.prog 28 cArrR := ok_of_wp mixed g66 (by kernel_rfl) (by kernel_rfl) (fun xx => ann0 (annArR xx.1 xx.2.1 xx.2.2.1)) fun xx => wp28 xx.1 xx.2.1 xx.2.2.1
abbrev G67 : Gam := (28, cArrR) :: G66
theorem g67 [Sx.Dr] : GamOk Tryz.prog G67 := .cons ok28 g66
end Go.Proofs.YtcledkhhecdppaaGreatDoor
