/- Contracts of the functions that the laws reach: part of the proof. -/
import Derived.Test.YtcledkhhecdppaaGreatDoorProg
import Derived.Test.YtcledkhhecdppaaGreatDoorSxC
import Derived.Test.YtcledkhhecdppaaGreatDoorShelfA
import Derived.Test.YtcledkhhecdppaaGreatDoorLayA
import Derived.KernelRfl
set_option linter.unusedSimpArgs false
set_option linter.unusedVariables false
set_option maxRecDepth 20000
namespace Go.Proofs.YtcledkhhecdppaaGreatDoor
open Go.Sx
abbrev I : Bool × Sch := (false, .int .i64)
abbrev Bo : Bool × Sch := (false, .bool)
abbrev aI : AK := .val false (.int .i64)
abbrev aB : AK := .val false .bool
abbrev aS : AK := .val false .str
abbrev tS : Bool × Sch := (false, .str)
abbrev sI : Sch := .int .i64
abbrev sPt : Sch := .prod sI sI
abbrev Pr : Bool × Sch := (true, .prod sI sI)
abbrev aP : AK := .val true sPt
abbrev G0 : Gam := []
theorem g0 [Sx.Dr] : GamOk Tryz.prog G0 := .nil _
theorem mixed : Tryz.prog.follows .mixedOrders = true := by kernel_rfl
abbrev na {α : Type} : α → Nat → Option Ann := fun _ _ => none
abbrev ann0 (A : Ann) : Nat → Option Ann := fun k => if k = 0 then some A else none
def cWhen : Con := { args := [aB, aI], ress := [I], owns := [], pre := fun _ => [], spec := fun (b, e, _) => (bif b then e else 0, ()) }
theorem vc105 : ∀ (b : Bool) (e : Int), wpF Tryz.prog G0 (na ()) Tryz.f105 cWhen (b, e, ()) = ((b = true → e = bif b then e else 0) ∧ (b = false → 0 = bif b then e else 0)) := by
 intros
 kernel_rfl
theorem wp105 (b : Bool) (e : Int) : wpF Tryz.prog G0 (na ()) Tryz.f105 cWhen (b, e, ()) := by
 refine (vc105 b e).mpr ?_
 cases b <;> simp
theorem ok105 [Sx.Dr] : Ok Tryz.prog 105 cWhen := ok_of_wp mixed g0 (by kernel_rfl) (by kernel_rfl) na fun xx => wp105 xx.1 xx.2.1
abbrev G1 : Gam := (105, cWhen) :: G0
theorem g1 [Sx.Dr] : GamOk Tryz.prog G1 := .cons ok105 g0
theorem vc64 : ∀ (b : Bool) (e : Int), wpF Tryz.prog G1 (na ()) Tryz.f64 cWhen (b, e, ()) = ((b = true → e = bif b then e else 0) ∧ (b = false → 0 = bif b then e else 0)) := by
 intros
 kernel_rfl
theorem wp64 (b : Bool) (e : Int) : wpF Tryz.prog G1 (na ()) Tryz.f64 cWhen (b, e, ()) := by
 refine (vc64 b e).mpr ?_
 cases b <;> simp
theorem ok64 [Sx.Dr] : Ok Tryz.prog 64 cWhen := ok_of_wp mixed g1 (by kernel_rfl) (by kernel_rfl) na fun xx => wp64 xx.1 xx.2.1
abbrev G2 : Gam := (64, cWhen) :: G1
theorem g2 [Sx.Dr] : GamOk Tryz.prog G2 := .cons ok64 g1
def withinS (n lo hi : Int) : Int := bif decide (n < lo) || decide (hi < n) then 3 else 0
def cWithin : Con := { args := [aI, aI, aI], ress := [I], owns := [], pre := fun _ => [], spec := fun (n, lo, hi, _) => (withinS n lo hi, ()) }
theorem vc94 : ∀ (n lo hi : Int), wpF Tryz.prog G2 (na ()) Tryz.f94 cWithin (n, lo, hi, ()) = ((bif bif decide (n < lo) then true else decide (hi < n) then 3 else 0) = withinS n lo hi) := by
 intros
 kernel_rfl
theorem wp94 (n lo hi : Int) : wpF Tryz.prog G2 (na ()) Tryz.f94 cWithin (n, lo, hi, ()) := by
 refine (vc94 n lo hi).mpr ?_
 unfold withinS; cases decide (n < lo) <;> rfl
theorem ok94 [Sx.Dr] : Ok Tryz.prog 94 cWithin := ok_of_wp mixed g2 (by kernel_rfl) (by kernel_rfl) na fun xx => wp94 xx.1 xx.2.1 xx.2.2.1
abbrev G3 : Gam := (94, cWithin) :: G2
theorem g3 [Sx.Dr] : GamOk Tryz.prog G3 := .cons ok94 g2
theorem vc45 : ∀ (n lo hi : Int), wpF Tryz.prog G3 (na ()) Tryz.f45 cWithin (n, lo, hi, ()) = ((bif bif decide (n < lo) then true else decide (hi < n) then 3 else 0) = withinS n lo hi) := by
 intros
 kernel_rfl
theorem wp45 (n lo hi : Int) : wpF Tryz.prog G3 (na ()) Tryz.f45 cWithin (n, lo, hi, ()) := by
 refine (vc45 n lo hi).mpr ?_
 unfold withinS; cases decide (n < lo) <;> rfl
theorem ok45 [Sx.Dr] : Ok Tryz.prog 45 cWithin := ok_of_wp mixed g3 (by kernel_rfl) (by kernel_rfl) na fun xx => wp45 xx.1 xx.2.1 xx.2.2.1
abbrev G4 : Gam := (45, cWithin) :: G3
theorem g4 [Sx.Dr] : GamOk Tryz.prog G4 := .cons ok45 g3
def firstS : List Int → Int
 | [] => 0
 | x :: l => if x = 0 then firstS l else x
theorem firstS_drop {l : List Int} {k : Nat} (h : k < l.length) : firstS (l.drop k) = if l.getD k 0 = 0 then firstS (l.drop (k + 1)) else l.getD k 0 := by
 rw [List.drop_eq_getElem_cons h]
 simp [firstS, List.getD_eq_getElem?_getD, h]
def cFirst : Con := { args := [.val false (.list 32 sI)], ress := [I], owns := [], pre := fun (l, _) => [l.length ≤ 1000000], spec := fun (l, _) => (firstS l, ()) }
abbrev annFirst (l : List Int) : Ann := { X := Nat, σ := fun k => ⟨1, [(5, .one (.sl 0)), (6, .one (.int .i64 l.length)), (7, .one (.int .i64 k))], [(0, .imm 32 sI l)]⟩, inv := fun k => k ≤ l.length ∧ firstS l = firstS (l.drop k), mu := fun k => l.length - k }
theorem vc92 : ∀ (l : List Int), wpF Tryz.prog G4 (ann0 (annFirst l)) Tryz.f92 cFirst (l, ()) = (List.length l ≤ 1000000 → ∃ (x : Nat), ((↑(List.length l) : Int) = (↑(List.length l) : Int) ∧ 0 = (↑x : Int) ∧ l = l) ∧ (x ≤ List.length l ∧ firstS l = firstS (List.drop x l)) ∧ ∀ (x : Nat), x ≤ List.length l ∧ firstS l = firstS (List.drop x l) → (decide ((↑x : Int) < (↑(List.length l) : Int)) = true → ((0 ≤ (↑x : Int) ∧ (↑x : Int) < (↑(List.length l) : Int)) ∧ 0 ≤ (↑x : Int) ∧ (↑x : Int) < (↑(List.length l) : Int)) ∧ ((List.getD l x (0 : Int) != 0) = true → List.getD l x 0 = firstS l) ∧ ((List.getD l x (0 : Int) != 0) = false → ((-9223372036854775808) ≤ (↑x : Int) + 1 ∧ (↑x : Int) + (1 : Int) ≤ 9223372036854775807) ∧ ∃ (y : Nat), ((↑(List.length l) : Int) = (↑(List.length l) : Int) ∧ (↑x : Int) + 1 = (↑y : Int) ∧ l = l) ∧ (y ≤ List.length l ∧ firstS l = firstS (List.drop y l)) ∧ List.length l - y < List.length l - x)) ∧ (decide ((↑x : Int) < (↑(List.length l) : Int)) = false → 0 = firstS l)) := by
 intros
 kernel_rfl
theorem wp92 (l : List Int) : wpF Tryz.prog G4 (ann0 (annFirst l)) Tryz.f92 cFirst (l, ()) := by
 refine (vc92 l).mpr ?_
 intro hb
 refine ⟨(0 : Nat), ⟨rfl, rfl, rfl⟩, ⟨Nat.zero_le _, rfl⟩, fun (k : Nat) hk => ⟨fun h => ?_, fun h => ?_⟩⟩
 ·have hlt : k < l.length := by simpa using h
  have hd := firstS_drop hlt
  refine ⟨by omega, fun h1 => ?_, fun h1 => ⟨by omega, (k + 1 : Nat), ⟨rfl, by simp, rfl⟩, ⟨by omega, ?_⟩, by omega⟩⟩
  ·have h2 : ¬ l.getD k 0 = 0 := by simpa using h1
   rw [hk.2, hd, if_neg h2]
  ·have h2 : l.getD k 0 = 0 := by simpa using h1
   rw [hk.2, hd, if_pos h2]
 ·have hlt : ¬ k < l.length := by simpa using h
  have : k = l.length := by omega
  rw [hk.2, this, List.drop_length]; rfl
theorem ok92 [Sx.Dr] : Ok Tryz.prog 92 cFirst := ok_of_wp mixed g4 (by kernel_rfl) (by kernel_rfl) (fun xx => ann0 (annFirst xx.1)) fun xx => wp92 xx.1
abbrev G5 : Gam := (92, cFirst) :: G4
theorem g5 [Sx.Dr] : GamOk Tryz.prog G5 := .cons ok92 g4
def cFirstR : Con := { args := [.val false (.list 3 sI)], ress := [I], owns := [], pre := fun (l, _) => [l.length ≤ 1000000], spec := fun (l, _) => (firstS l, ()) }
abbrev annFirstR (l : List Int) : Ann := { X := Nat, σ := fun k => ⟨1, [(0, .one (.sl 0)), (3, .one (.int .i64 k))], [(0, .imm 3 sI l)]⟩, inv := fun k => k ≤ l.length ∧ firstS l = firstS (l.drop k), mu := fun k => l.length - k }
theorem vc24 : ∀ (l : List Int), wpF Tryz.prog G5 (ann0 (annFirstR l)) Tryz.f24 cFirstR (l, ()) = (List.length l ≤ 1000000 → ∃ (x : Nat), (0 = (↑x : Int) ∧ l = l) ∧ (x ≤ List.length l ∧ firstS l = firstS (List.drop x l)) ∧ ∀ (x : Nat), x ≤ List.length l ∧ firstS l = firstS (List.drop x l) → (decide ((↑x : Int) < (↑(List.length l) : Int)) = true → ((0 ≤ (↑x : Int) ∧ (↑x : Int) < (↑(List.length l) : Int)) ∧ 0 ≤ (↑x : Int) ∧ (↑x : Int) < (↑(List.length l) : Int)) ∧ ((List.getD l x (0 : Int) != 0) = true → ((0 ≤ (↑x : Int) ∧ (↑x : Int) < (↑(List.length l) : Int)) ∧ 0 ≤ (↑x : Int) ∧ (↑x : Int) < (↑(List.length l) : Int)) ∧ List.getD l x 0 = firstS l) ∧ ((List.getD l x (0 : Int) != 0) = false → ((-9223372036854775808) ≤ (↑x : Int) + 1 ∧ (↑x : Int) + (1 : Int) ≤ 9223372036854775807) ∧ ∃ (y : Nat), ((↑x : Int) + 1 = (↑y : Int) ∧ l = l) ∧ (y ≤ List.length l ∧ firstS l = firstS (List.drop y l)) ∧ List.length l - y < List.length l - x)) ∧ (decide ((↑x : Int) < (↑(List.length l) : Int)) = false → 0 = firstS l)) := by
 intros
 kernel_rfl
theorem wp24 (l : List Int) : wpF Tryz.prog G5 (ann0 (annFirstR l)) Tryz.f24 cFirstR (l, ()) := by
 refine (vc24 l).mpr ?_
 intro hb
 refine ⟨(0 : Nat), ⟨rfl, rfl⟩, ⟨Nat.zero_le _, rfl⟩, fun (k : Nat) hk => ⟨fun h => ?_, fun h => ?_⟩⟩
 ·have hlt : k < l.length := by simpa using h
  have hd := firstS_drop hlt
  refine ⟨by omega, fun h1 => ⟨by omega, ?_⟩, fun h1 => ⟨by omega, (k + 1 : Nat), ⟨by simp, rfl⟩, ⟨by omega, ?_⟩, by omega⟩⟩
  ·have h2 : ¬ l.getD k 0 = 0 := by simpa using h1
   rw [hk.2, hd, if_neg h2]
  ·have h2 : l.getD k 0 = 0 := by simpa using h1
   rw [hk.2, hd, if_pos h2]
 ·have hlt : ¬ k < l.length := by simpa using h
  have : k = l.length := by omega
  rw [hk.2, this, List.drop_length]; rfl
theorem ok24 [Sx.Dr] : Ok Tryz.prog 24 cFirstR := ok_of_wp mixed g5 (by kernel_rfl) (by kernel_rfl) (fun xx => ann0 (annFirstR xx.1)) fun xx => wp24 xx.1
abbrev G6 : Gam := (24, cFirstR) :: G5
theorem g6 [Sx.Dr] : GamOk Tryz.prog G6 := .cons ok24 g5
def gcdS (a b : Int) : Int := Int.gcd a b
def cDivisor : Con := { args := [aI, aI], ress := [I], owns := [], pre := fun (n, den, _) => [-9200000000000000000 ≤ n ∧ n ≤ 9200000000000000000, 0 ≤ den ∧ den ≤ 9200000000000000000], spec := fun (n, den, _) => (gcdS n den, ()) }
theorem gcd_step (a b n den : Int) (h : Int.gcd a b = Int.gcd n den) : Int.gcd b (a.tmod b) = Int.gcd n den := by
 rw [← h, Int.gcd_comm a b]
 unfold Int.gcd
 rw [Int.natAbs_tmod, Nat.gcd_comm, ← Nat.gcd_rec]
theorem tmod_lt {a b : Int} (hb : b ≠ 0) : (a.tmod b).natAbs < b.natAbs := by rw [Int.natAbs_tmod]; exact Nat.mod_lt _ (by omega)
abbrev annDiv (n den : Int) : Ann := { X := Int × Int, σ := fun (a, b) => ⟨0, [(0, .one (.int .i64 a)), (1, .one (.int .i64 b))], []⟩, inv := fun (a, b) => -9200000000000000000 ≤ a ∧ a ≤ 9200000000000000000 ∧ -9200000000000000000 ≤ b ∧ b ≤ 9200000000000000000 ∧ Int.gcd a b = Int.gcd n den, mu := fun (_, b) => b.natAbs }
theorem vc160 : ∀ (n den : Int), wpF Tryz.prog G6 (ann0 (annDiv n den)) Tryz.f160 cDivisor (n, den, ()) = ((-9200000000000000000) ≤ n ∧ n ≤ 9200000000000000000 → 0 ≤ den ∧ den ≤ 9200000000000000000 → ∃ (x : Int × Int), (n = x.1 ∧ den = x.2) ∧ ((-9200000000000000000) ≤ x.1 ∧ x.1 ≤ 9200000000000000000 ∧ (-9200000000000000000) ≤ x.2 ∧ x.2 ≤ 9200000000000000000 ∧ Int.gcd x.1 x.2 = Int.gcd n den) ∧ ∀ (x : Int × Int), (-9200000000000000000) ≤ x.1 ∧ x.1 ≤ 9200000000000000000 ∧ (-9200000000000000000) ≤ x.2 ∧ x.2 ≤ 9200000000000000000 ∧ Int.gcd x.1 x.2 = Int.gcd n den → ((x.2 != 0) = true → (x.2 = 0 → False) ∧ ∃ (y : Int × Int), (x.2 = y.1 ∧ Int.tmod x.1 x.2 = y.2) ∧ ((-9200000000000000000) ≤ y.1 ∧ y.1 ≤ 9200000000000000000 ∧ (-9200000000000000000) ≤ y.2 ∧ y.2 ≤ 9200000000000000000 ∧ Int.gcd y.1 y.2 = Int.gcd n den) ∧ Int.natAbs y.2 < Int.natAbs x.2) ∧ ((x.2 != 0) = false → ((-9223372036854775808 : Int) ≤ 0 - x.1 ∧ 0 - x.1 ≤ 9223372036854775807) ∧ max x.1 (0 - x.1) = gcdS n den)) := by
 intros
 kernel_rfl
theorem wp160 (n den : Int) : wpF Tryz.prog G6 (ann0 (annDiv n den)) Tryz.f160 cDivisor (n, den, ()) := by
 refine (vc160 n den).mpr ?_
 intro h1 h2
 refine ⟨(n, den), ⟨rfl, rfl⟩, ⟨by simp only; omega, by simp only; omega, by simp only; omega, by simp only; omega, rfl⟩, ?_⟩
 rintro ⟨a, b⟩ ⟨i1, i2, i3, i4, i5⟩
 dsimp only at i1 i2 i3 i4 i5 ⊢
 refine ⟨fun h => ?_, fun h => ?_⟩
 ·have hb : b ≠ 0 := by simpa using h
  have hl := tmod_lt (a := a) hb
  exact ⟨hb, (b, a.tmod b), ⟨rfl, rfl⟩, ⟨i3, i4, by dsimp only; omega, by dsimp only; omega, gcd_step a b n den i5⟩, hl⟩
 ·have hb : b = 0 := by simpa using h
  subst hb
  have e : gcdS n den = a.natAbs := by unfold gcdS; rw [← i5]; simp
  rw [e]
  exact ⟨by omega, by omega⟩
theorem ok160 [Sx.Dr] : Ok Tryz.prog 160 cDivisor := ok_of_wp mixed g6 (by kernel_rfl) (by kernel_rfl) (fun xx => ann0 (annDiv xx.1 xx.2.1)) fun xx => wp160 xx.1 xx.2.1
abbrev G7 : Gam := (160, cDivisor) :: G6
theorem g7 [Sx.Dr] : GamOk Tryz.prog G7 := .cons ok160 g6
abbrev G8 : Gam := G7
theorem g8 [Sx.Dr] : GamOk Tryz.prog G8 := g7
def lowestS (n d : Int) : Int × Int := (n.tdiv (gcdS n d), d.tdiv (gcdS n d))
theorem gcdS_pos {n d : Int} (h : 0 < d) : 0 < gcdS n d := by
 unfold gcdS
 have := Nat.gcd_pos_of_pos_right (m := n.natAbs) (n := d.natAbs) (by omega)
 unfold Int.gcd
 omega
theorem tdiv_bd {a g B : Int} (h : -B ≤ a ∧ a ≤ B) : -B ≤ a.tdiv g ∧ a.tdiv g ≤ B := by
 have h1 : (a.tdiv g).natAbs ≤ a.natAbs := by rw [Int.natAbs_tdiv]; exact Nat.div_le_self _ _
 omega
theorem mul_bd {a b A B : Int} (ha : -A ≤ a ∧ a ≤ A) (hb : -B ≤ b ∧ b ≤ B) : -(A * B) ≤ a * b ∧ a * b ≤ A * B := by
 have h1 : (a * b).natAbs ≤ A.natAbs * B.natAbs := by rw [Int.natAbs_mul]; exact Nat.mul_le_mul (by omega) (by omega)
 have h2 : ((A.natAbs * B.natAbs : Nat) : Int) = A * B := by
  rw [Int.natCast_mul]
  congr 1 <;> omega
 omega
def cLowest : Con := { args := [aI, aI], ress := [Pr], owns := [], pre := fun (n, den, _) => [-9200000000000000000 ≤ n ∧ n ≤ 9200000000000000000, 0 < den ∧ den ≤ 9200000000000000000], spec := fun (n, den, _) => (lowestS n den, ()) }
theorem vc120 : ∀ (n den : Int), wpF Tryz.prog G8 (na ()) Tryz.f120 cLowest (n, den, ()) = ((-9200000000000000000) ≤ n ∧ n ≤ 9200000000000000000 → 0 < den ∧ den ≤ 9200000000000000000 → (((-9200000000000000000) ≤ n ∧ n ≤ 9200000000000000000) ∧ 0 ≤ den ∧ den ≤ 9200000000000000000) ∧ ((gcdS n den = 0 → False) ∧ (I64 (Int.tdiv n (gcdS n den))) ∧ (gcdS n den = 0 → False) ∧ I64 (Int.tdiv den (gcdS n den))) ∧ (Int.tdiv n (gcdS n den), Int.tdiv den (gcdS n den)) = lowestS n den) := by
 intros
 kernel_rfl
theorem wp120 (n den : Int) : wpF Tryz.prog G8 (na ()) Tryz.f120 cLowest (n, den, ()) := by
 refine (vc120 n den).mpr ?_
 delta I64
 intro h1 h2
 have hg := gcdS_pos (n := n) h2.1
 have b1 := tdiv_bd (g := gcdS n den) (B := 9200000000000000000) ⟨by omega, h1.2⟩
 have b2 := tdiv_bd (a := den) (g := gcdS n den) (B := 9200000000000000000) ⟨by omega, h2.2⟩
 exact ⟨by omega, ⟨by omega, by omega, by omega, by omega⟩, rfl⟩
theorem ok120 [Sx.Dr] : Ok Tryz.prog 120 cLowest := ok_of_wp mixed g8 (by kernel_rfl) (by kernel_rfl) na fun xx => wp120 xx.1 xx.2.1
abbrev G9 : Gam := (120, cLowest) :: G8
theorem g9 [Sx.Dr] : GamOk Tryz.prog G9 := .cons ok120 g8
abbrev G10 : Gam := G9
theorem g10 [Sx.Dr] : GamOk Tryz.prog G10 := g9
theorem floor_key {n d : Int} (h : 0 < d) : (n < n.tdiv d * d → n.tdiv d - 1 = n / d) ∧ (¬ n < n.tdiv d * d → n.tdiv d = n / d) := by
 have h1 := Int.ediv_mul_add_emod n d
 have h2 := Int.emod_nonneg n (by omega : d ≠ 0)
 have h4 := Int.emod_lt_of_pos n h
 have h3 := Int.tdiv_eq_ediv (a := n) (b := d)
 rw [Int.sign_eq_one_of_pos h] at h3
 split at h3
 ·rw [Int.add_zero] at h3
  rw [h3]
  exact ⟨fun h => by omega, fun _ => rfl⟩
 ·rw [h3]
  have e : (n / d + 1) * d = n / d * d + d := by rw [Int.add_mul, Int.one_mul]
  rw [e]
  exact ⟨fun _ => by omega, fun h => by omega⟩
abbrev G11 : Gam := G10
theorem g11 [Sx.Dr] : GamOk Tryz.prog G11 := g10
def roundS (n d : Int) : Int := (2 * n + d) / (2 * d)
def cRound : Con := { args := [aI, aI], ress := [I], owns := [], pre := fun (n, d, _) => [-400000000000000 ≤ n ∧ n ≤ 400000000000000, 0 < d ∧ d ≤ 100000000], spec := fun (n, d, _) => (roundS n d, ()) }
abbrev G12 : Gam := G11
theorem g12 [Sx.Dr] : GamOk Tryz.prog G12 := g11
theorem vc95 : ∀ (n d : Int), wpF Tryz.prog G12 (na ()) Tryz.f95 cRound (n, d, ()) = ((-400000000000000) ≤ n ∧ n ≤ 400000000000000 → 0 < d ∧ d ≤ 100000000 → (((-9223372036854775808 : Int) ≤ 2 * n ∧ 2 * n ≤ 9223372036854775807) ∧ ((-9223372036854775808 : Int) ≤ 2 * n + d ∧ 2 * n + d ≤ 9223372036854775807) ∧ (-9223372036854775808 : Int) ≤ 2 * d ∧ 2 * d ≤ 9223372036854775807) ∧ ((2 * d = 0 → False) ∧ I64 (Int.tdiv (2 * n + d) (2 * d))) ∧ (I64 (Int.tdiv (2 * n + d) (2 * d) * (2 * d))) ∧ (decide (2 * n + d < Int.tdiv (2 * n + d) (2 * d) * (2 * d)) = true → ((-9223372036854775808) ≤ Int.tdiv (2 * n + d) (2 * d) - 1 ∧ Int.tdiv (2 * n + d) (2 * d) - (1 : Int) ≤ 9223372036854775807) ∧ Int.tdiv (2 * n + d) (2 * d) - 1 = roundS n d) ∧ (decide (2 * n + d < Int.tdiv (2 * n + d) (2 * d) * (2 * d)) = false → Int.tdiv (2 * n + d) (2 * d) = roundS n d)) := by
 intros
 kernel_rfl
theorem wp95 (n d : Int) : wpF Tryz.prog G12 (na ()) Tryz.f95 cRound (n, d, ()) := by
 refine (vc95 n d).mpr ?_
 delta I64
 intro h1 h2
 have b := tdiv_bd (a := 2 * n + d) (g := 2 * d) (B := 1000000000000000) ⟨by omega, by omega⟩
 have b2 : ((2 * n + d).tdiv (2 * d) * (2 * d)).natAbs ≤ (2 * n + d).natAbs := by rw [Int.natAbs_mul, Int.natAbs_tdiv]; exact Nat.div_mul_le_self _ _
 have hk := floor_key (n := 2 * n + d) (d := 2 * d) (by omega)
 refine ⟨by omega, by omega, by omega, fun h => ⟨by omega, hk.1 (by simpa using h)⟩, fun h => hk.2 (by simpa using h)⟩
theorem ok95 [Sx.Dr] : Ok Tryz.prog 95 cRound := ok_of_wp mixed g12 (by kernel_rfl) (by kernel_rfl) na fun xx => wp95 xx.1 xx.2.1
abbrev G13 : Gam := (95, cRound) :: G12
theorem g13 [Sx.Dr] : GamOk Tryz.prog G13 := .cons ok95 g12
def sA : ByteArray := ⟨⟨[65]⟩⟩
def sB : ByteArray := ⟨⟨[66]⟩⟩
def endS (s : ByteArray) : Int := bif (!(s.toList == sA.toList)) && (!(s.toList == sB.toList)) then 13 else 0
def cEnd : Con := { args := [aS], ress := [I], owns := [], pre := fun _ => [], spec := fun (s, _) => (endS s, ()) }
theorem vc93 : ∀ (s : ByteArray), wpF Tryz.prog G13 (na ()) Tryz.f93 cEnd (s, ()) = ((bif bif !ByteArray.toList s == ByteArray.toList (ByteArray.mk (Array.mk [(65 : UInt8)])) then !ByteArray.toList s == ByteArray.toList (ByteArray.mk (Array.mk [(66 : UInt8)])) else false then 13 else 0) = endS s) := by
 intros
 kernel_rfl
theorem wp93 (s : ByteArray) : wpF Tryz.prog G13 (na ()) Tryz.f93 cEnd (s, ()) := by
 refine (vc93 s).mpr ?_
 unfold endS
 show (bif bif !s.toList == sA.toList then !s.toList == sB.toList else false then (13 : Int) else 0) = _
 cases (s.toList == sA.toList) <;> rfl
theorem ok93 [Sx.Dr] : Ok Tryz.prog 93 cEnd := ok_of_wp mixed g13 (by kernel_rfl) (by kernel_rfl) na fun xx => wp93 xx.1
abbrev G14 : Gam := (93, cEnd) :: G13
theorem g14 [Sx.Dr] : GamOk Tryz.prog G14 := .cons ok93 g13
abbrev G15 : Gam := G14
theorem g15 [Sx.Dr] : GamOk Tryz.prog G15 := g14
def cFactorC : Con := { args := [aI], ress := [I], owns := [], pre := fun _ => [], spec := fun (n, _) => (withinS n (-8) 8, ()) }
theorem vc132 : ∀ (n : Int), wpF Tryz.prog G15 (na ()) Tryz.f132 cFactorC (n, ()) = (withinS n (-8) 8 = withinS n (-8) 8) := by
 intros
 kernel_rfl
theorem wp132 (n : Int) : wpF Tryz.prog G15 (na ()) Tryz.f132 cFactorC (n, ()) := by
 refine (vc132 n).mpr ?_
 rfl
theorem ok132 [Sx.Dr] : Ok Tryz.prog 132 cFactorC := ok_of_wp mixed g15 (by kernel_rfl) (by kernel_rfl) na fun xx => wp132 xx.1
abbrev G16 : Gam := (132, cFactorC) :: G15
theorem g16 [Sx.Dr] : GamOk Tryz.prog G16 := .cons ok132 g15
theorem vc109 : ∀ (n : Int), wpF Tryz.prog G16 (na ()) Tryz.f109 cFactorC (n, ()) = (withinS n (-8) 8 = withinS n (-8) 8) := by
 intros
 kernel_rfl
theorem wp109 (n : Int) : wpF Tryz.prog G16 (na ()) Tryz.f109 cFactorC (n, ()) := by
 refine (vc109 n).mpr ?_
 rfl
theorem ok109 [Sx.Dr] : Ok Tryz.prog 109 cFactorC := ok_of_wp mixed g16 (by kernel_rfl) (by kernel_rfl) na fun xx => wp109 xx.1
abbrev G17 : Gam := (109, cFactorC) :: G16
theorem g17 [Sx.Dr] : GamOk Tryz.prog G17 := .cons ok109 g16
def thrS (n : Int) : Int := withinS n 1 1099511627776
def cThr : Con := { args := [aI], ress := [I], owns := [], pre := fun _ => [], spec := fun (n, _) => (thrS n, ()) }
theorem vc111 : ∀ (n : Int), wpF Tryz.prog G17 (na ()) Tryz.f111 cThr (n, ()) = (withinS n 1 1099511627776 = thrS n) := by
 intros
 kernel_rfl
theorem wp111 (n : Int) : wpF Tryz.prog G17 (na ()) Tryz.f111 cThr (n, ()) := by
 refine (vc111 n).mpr ?_
 rfl
theorem ok111 [Sx.Dr] : Ok Tryz.prog 111 cThr := ok_of_wp mixed g17 (by kernel_rfl) (by kernel_rfl) na fun xx => wp111 xx.1
abbrev G18 : Gam := (111, cThr) :: G17
theorem g18 [Sx.Dr] : GamOk Tryz.prog G18 := .cons ok111 g17
abbrev G19 : Gam := G18
theorem g19 [Sx.Dr] : GamOk Tryz.prog G19 := g18
abbrev G20 : Gam := G19
theorem g20 [Sx.Dr] : GamOk Tryz.prog G20 := g19
def cNumber : Con := { args := [aB], ress := [I], owns := [], pre := fun _ => [], spec := fun (b, _) => (bif b then 1 else 0, ()) }
theorem vc148 : ∀ (b : Bool), wpF Tryz.prog G20 (na ()) Tryz.f148 cNumber (b, ()) = ((b = true → (1 : Int) = bif b then (1 : Int) else (0 : Int)) ∧ (b = false → (0 : Int) = bif b then (1 : Int) else (0 : Int))) := by
 intros
 kernel_rfl
theorem wp148 (b : Bool) : wpF Tryz.prog G20 (na ()) Tryz.f148 cNumber (b, ()) := by
 refine (vc148 b).mpr ?_
 cases b <;> simp
theorem ok148 [Sx.Dr] : Ok Tryz.prog 148 cNumber := ok_of_wp mixed g20 (by kernel_rfl) (by kernel_rfl) na fun xx => wp148 xx.1
abbrev G21 : Gam := (148, cNumber) :: G20
theorem g21 [Sx.Dr] : GamOk Tryz.prog G21 := .cons ok148 g20
def secS (x : Int × Int) : Int := firstS [withinS x.1 1 100000, withinS x.2 1 64]
def cSec : Con := { args := [aP], ress := [I], owns := [], pre := fun _ => [], spec := fun (x, _) => (secS x, ()) }
theorem vc130 : ∀ (x : Int × Int), wpF Tryz.prog G21 (na ()) Tryz.f130 cSec (x, ()) = (2 ≤ 1000000 ∧ firstS [withinS x.1 1 100000, withinS x.2 1 64] = secS x) := by
 intros
 kernel_rfl
theorem wp130 (x : Int × Int) : wpF Tryz.prog G21 (na ()) Tryz.f130 cSec (x, ()) := by
 refine (vc130 x).mpr ?_
 exact ⟨by simp, rfl⟩
theorem ok130 [Sx.Dr] : Ok Tryz.prog 130 cSec := ok_of_wp mixed g21 (by kernel_rfl) (by kernel_rfl) na fun xx => wp130 xx.1
abbrev G22 : Gam := (130, cSec) :: G21
theorem g22 [Sx.Dr] : GamOk Tryz.prog G22 := .cons ok130 g21
theorem getD_mem {α : Type} {l : List α} {k : Nat} {d : α} (h : k < l.length) : l.getD k d ∈ l := by
 simp [List.getD_eq_getElem?_getD, h]
theorem take_snoc {α : Type} {d : α} {l : List α} {k : Nat} (h : k < l.length) : l.take k ++ [l.getD k d] = l.take (k + 1) := by
 rw [List.take_succ_eq_append_getElem h, List.getD_eq_getElem?_getD, List.getElem?_eq_getElem h]; rfl
abbrev annMap (T U : TypeId) (s : Sch) (l : List s.T) (r : Bool × Sch) (g : Bool) (q : Tup [(g, s)] → List Prop) (f : Tup [(g, s)] → r.2.T) : Ann := { X := Nat, σ := fun k => ⟨3, [(1, .one (.fv 1)), (5, .one (.sl 2)), (8, .one (.sl 0)), (9, .one (.int .i64 l.length)), (10, .one (.int .i64 k))], [(0, .imm T s l), (1, .afn [(g, s)] r q f), (2, .own U r.2 ((l.take k).map fun x => f (x, ())))]⟩, inv := fun k => k ≤ l.length, mu := fun k => l.length - k }
def cMapII (T U : TypeId) : Con := { args := [.val false (.list T sI), .fn [I] I], ress := [(false, .list U sI)], owns := [true], pre := fun (l, (q, _), _) => [l.length ≤ 1000000, ∀ x ∈ l, conj (q (x, ()))], spec := fun (l, (_, f), _) => (l.map fun x => f (x, ()), ()) }
theorem vc131 : ∀ (l : List Int) (q : Int × Unit → List Prop) (f : Int × Unit → Int), wpF Tryz.prog G22 (ann0 (annMap (3 : TypeId) (32 : TypeId) sI l I false q f)) Tryz.f131 (cMapII (3 : TypeId) (32 : TypeId)) (l, (q, f), ()) = (List.length l ≤ 1000000 → (∀ (x : Int), x ∈ l → conj (q (x, PUnit.unit))) → ∃ (x : Nat), ((↑(List.length l) : Int) = (↑(List.length l) : Int) ∧ 0 = (↑x : Int) ∧ l = l ∧ (fun (x : Int × PUnit) => q x) = q ∧ (fun (x : Int × PUnit) => f x) = f ∧ List.length (List.map (fun (x : Int) => f (x, PUnit.unit)) (List.take x l)) = 0) ∧ x ≤ List.length l ∧ ∀ (x : Nat), x ≤ List.length l → (decide ((↑x : Int) < (↑(List.length l) : Int)) = true → ((0 ≤ (↑x : Int) ∧ (↑x : Int) < (↑(List.length l) : Int)) ∧ 0 ≤ (↑x : Int) ∧ (↑x : Int) < (↑(List.length l) : Int)) ∧ (conj (q (List.getD l x 0, PUnit.unit)) ∧ (List.length (List.map (fun (x : Int) => f (x, PUnit.unit)) (List.take x l)) + 1) * 8 ≤ 140737488355328) ∧ ((-9223372036854775808) ≤ (↑x : Int) + 1 ∧ (↑x : Int) + (1 : Int) ≤ 9223372036854775807) ∧ ∃ (y : Nat), ((↑(List.length l) : Int) = (↑(List.length l) : Int) ∧ (↑x : Int) + 1 = (↑y : Int) ∧ l = l ∧ (fun (x : Int × PUnit) => q x) = q ∧ (fun (x : Int × PUnit) => f x) = f ∧ List.map (fun (x : Int) => f (x, PUnit.unit)) (List.take x l) ++ [f (List.getD l x 0, PUnit.unit)] = List.map (fun (x : Int) => f (x, PUnit.unit)) (List.take y l)) ∧ y ≤ List.length l ∧ List.length l - y < List.length l - x) ∧ (decide ((↑x : Int) < (↑(List.length l) : Int)) = false → List.map (fun (x : Int) => f (x, PUnit.unit)) (List.take x l) = List.map (fun (x : Int) => f (x, PUnit.unit)) l)) := by
 intros
 kernel_rfl
theorem wp131 (l : List Int) (q : Int × Unit → List Prop) (f : Int × Unit → Int) : wpF Tryz.prog G22 (ann0 (annMap 3 32 sI l I false q f)) Tryz.f131 (cMapII 3 32) (l, (q, f), ()) := by
 refine (vc131 l q f).mpr ?_
 intro hb hq
 refine ⟨(0 : Nat), ⟨rfl, rfl, rfl, rfl, rfl, by simp⟩, Nat.zero_le _, fun (k : Nat) hk => ⟨fun h => ?_, fun h => ?_⟩⟩
 ·have hlt : k < l.length := by simpa using h
  refine ⟨by omega, ⟨hq _ (getD_mem hlt), by simp only [List.length_map, List.length_take]; omega⟩, by omega, (k + 1 : Nat), ⟨rfl, by simp, rfl, rfl, rfl, ?_⟩, by omega, by omega⟩
  rw [← take_snoc (d := 0) hlt, List.map_append]; rfl
 ·have hlt : ¬ k < l.length := by simpa using h
  rw [List.take_of_length_le (by omega)]
theorem ok131 [Sx.Dr] : Ok Tryz.prog 131 (cMapII 3 32) := ok_of_wp mixed g22 (by kernel_rfl) (by kernel_rfl) (fun xx => ann0 (annMap 3 32 sI xx.1 I false xx.2.1.1 xx.2.1.2)) fun xx => wp131 xx.1 xx.2.1.1 xx.2.1.2
abbrev G23 : Gam := (131, (cMapII 3 32)) :: G22
theorem g23 [Sx.Dr] : GamOk Tryz.prog G23 := .cons ok131 g22
abbrev G24 : Gam := G23
theorem g24 [Sx.Dr] : GamOk Tryz.prog G24 := g23
def cMapSI : Con := { args := [.val false (.list 166 sPt), .fn [Pr] I], ress := [(false, .list 32 sI)], owns := [true], pre := fun (l, (q, _), _) => [l.length ≤ 1000000, ∀ x ∈ l, conj (q (x, ()))], spec := fun (l, (_, f), _) => (l.map fun x => f (x, ()), ()) }
theorem vc129 : ∀ (l : List (Int × Int)) (q : (Int × Int) × Unit → List Prop) (f : (Int × Int) × Unit → Int), wpF Tryz.prog G24 (ann0 (annMap (166 : TypeId) (32 : TypeId) sPt l I true q f)) Tryz.f129 cMapSI (l, (q, f), ()) = (List.length l ≤ 1000000 → (∀ (x : Int × Int), x ∈ l → conj (q (x, PUnit.unit))) → ∃ (x : Nat), ((↑(List.length l) : Int) = (↑(List.length l) : Int) ∧ 0 = (↑x : Int) ∧ l = l ∧ (fun (x : (Int × Int) × PUnit) => q x) = q ∧ (fun (x : (Int × Int) × PUnit) => f x) = f ∧ List.length (List.map (fun (x : Int × Int) => f (x, PUnit.unit)) (List.take x l)) = 0) ∧ x ≤ List.length l ∧ ∀ (x : Nat), x ≤ List.length l → (decide ((↑x : Int) < (↑(List.length l) : Int)) = true → ((0 ≤ (↑x : Int) ∧ (↑x : Int) < (↑(List.length l) : Int)) ∧ 0 ≤ (↑x : Int) ∧ (↑x : Int) < (↑(List.length l) : Int)) ∧ (conj (q (((List.getD l x (0, 0)).1, (List.getD l x (0, 0)).2), PUnit.unit)) ∧ (List.length (List.map (fun (x : Int × Int) => f (x, PUnit.unit)) (List.take x l)) + 1) * 8 ≤ 140737488355328) ∧ ((-9223372036854775808) ≤ (↑x : Int) + 1 ∧ (↑x : Int) + (1 : Int) ≤ 9223372036854775807) ∧ ∃ (y : Nat), ((↑(List.length l) : Int) = (↑(List.length l) : Int) ∧ (↑x : Int) + 1 = (↑y : Int) ∧ l = l ∧ (fun (x : (Int × Int) × PUnit) => q x) = q ∧ (fun (x : (Int × Int) × PUnit) => f x) = f ∧ List.map (fun (x : Int × Int) => f (x, PUnit.unit)) (List.take x l) ++ [f (((List.getD l x (0, 0)).1, (List.getD l x (0, 0)).2), PUnit.unit)] = List.map (fun (x : Int × Int) => f (x, PUnit.unit)) (List.take y l)) ∧ y ≤ List.length l ∧ List.length l - y < List.length l - x) ∧ (decide ((↑x : Int) < (↑(List.length l) : Int)) = false → List.map (fun (x : Int × Int) => f (x, PUnit.unit)) (List.take x l) = List.map (fun (x : Int × Int) => f (x, PUnit.unit)) l)) := by
 intros
 kernel_rfl
theorem wp129 (l : List (Int × Int)) (q : (Int × Int) × Unit → List Prop) (f : (Int × Int) × Unit → Int) : wpF Tryz.prog G24 (ann0 (annMap 166 32 sPt l I true q f)) Tryz.f129 cMapSI (l, (q, f), ()) := by
 refine (vc129 l q f).mpr ?_
 intro hb hq
 refine ⟨(0 : Nat), ⟨rfl, rfl, rfl, rfl, rfl, by simp⟩, Nat.zero_le _, fun (k : Nat) hk => ⟨fun h => ?_, fun h => ?_⟩⟩
 ·have hlt : k < l.length := by simpa using h
  refine ⟨by omega, ⟨hq (l.getD k (0, 0)) (getD_mem hlt), by simp only [List.length_map, List.length_take]; omega⟩, by omega, (k + 1 : Nat), ⟨rfl, by simp, rfl, rfl, rfl, ?_⟩, by omega, by omega⟩
  rw [← take_snoc (d := (0, 0)) hlt, List.map_append]; rfl
 ·have hlt : ¬ k < l.length := by simpa using h
  rw [List.take_of_length_le (by omega)]
theorem ok129 [Sx.Dr] : Ok Tryz.prog 129 cMapSI := ok_of_wp mixed g24 (by kernel_rfl) (by kernel_rfl) (fun xx => ann0 (annMap 166 32 sPt xx.1 I true xx.2.1.1 xx.2.1.2)) fun xx => wp129 xx.1 xx.2.1.1 xx.2.1.2
abbrev G25 : Gam := (129, cMapSI) :: G24
theorem g25 [Sx.Dr] : GamOk Tryz.prog G25 := .cons ok129 g24
abbrev Cab : Type := List (Int × Int) × List Int × Int × Int
abbrev sCab (T : TypeId) : Sch := .prod (.list T sPt) (.prod (.list 3 sI) (.prod sI sI))
abbrev aC : AK := .val true (sCab 166)
abbrev aCR : AK := .val true (sCab 102)
def facS (n : Int) : Int := withinS n (-8) 8
def cabS (c : Cab) : Int :=
 if c.1.length = 0 then 12 else if 6 < c.1.length then 5 else
 firstS [firstS (c.1.map secS), (if (c.2.1.length : Int) ≠ c.1.length - 1 then 2 else 0), firstS (c.2.1.map facS), firstS [facS c.2.2.1, facS c.2.2.2]]
def cCab : Con := { args := [aC], ress := [I], owns := [], pre := fun (c, _) => [c.1.length ≤ 1000000, c.2.1.length ≤ 1000000], spec := fun (c, _) => (cabS c, ()) }
theorem bne_zero {n : Int} : (n != 0) = true ↔ n ≠ 0 := by simp
theorem bne_zero' {n : Int} : (n != 0) = false ↔ n = 0 := by simp
def vc74_0 (c : Cab) := (firstS [bif (↑(List.length c.1) : Int) == (0 : Int) then (12 : Int) else (0 : Int), bif decide ((6 : Int) < (↑(List.length c.1) : Int)) then (5 : Int) else (0 : Int)] != (0 : Int))
theorem vc74 : ∀ (c : Cab), wpF Tryz.prog G25 (na ()) Tryz.f74 cCab (c, ()) = (List.length c.1 ≤ 1000000 → List.length c.2.1 ≤ 1000000 → 2 ≤ 1000000 ∧ ((vc74_0 c) = true → firstS [bif (↑(List.length c.1) : Int) == 0 then 12 else 0, bif decide (6 < (↑(List.length c.1) : Int)) then 5 else 0] = cabS c) ∧ ((vc74_0 c) = false → (List.length c.1 ≤ 1000000 ∧ (∀ (x : Int × Int), x ∈ c.1 → True) ∧ List.length (List.map (fun (x : Int × Int) => secS x) c.1) ≤ 1000000 ∧ ((-9223372036854775808) ≤ (↑(List.length c.1) : Int) - 1 ∧ (↑(List.length c.1) : Int) - (1 : Int) ≤ 9223372036854775807) ∧ List.length c.2.1 ≤ 1000000 ∧ (∀ (x : Int), x ∈ c.2.1 → True) ∧ List.length (List.map (fun (x : Int) => withinS x (-8) 8) c.2.1) ≤ 1000000 ∧ 2 ≤ 1000000 ∧ (∀ (x : Int), x ∈ [c.2.2.1, c.2.2.2] → True) ∧ 2 ≤ 1000000 ∧ 4 ≤ 1000000) ∧ firstS [firstS (List.map (fun (x : Int × Int) => secS x) c.1), bif (↑(List.length c.2.1) : Int) != (↑(List.length c.1) : Int) - 1 then 2 else 0, firstS (List.map (fun (x : Int) => withinS x (-8) 8) c.2.1), firstS [withinS c.2.2.1 (-8) 8, withinS c.2.2.2 (-8) 8]] = cabS c)) := by
 intros
 kernel_rfl
theorem wp74 (c : Cab) : wpF Tryz.prog G25 (na ()) Tryz.f74 cCab (c, ()) := by
 refine (vc74 c).mpr ?_
 delta vc74_0
 intro h1 h2
 unfold cabS
 have e1 : firstS [bif (c.1.length : Int) == 0 then 12 else 0, bif decide ((6 : Int) < c.1.length) then 5 else 0] = if c.1.length = 0 then 12 else if 6 < c.1.length then 5 else 0 := by
  simp only [firstS, Bool.cond_eq_ite, beq_iff_eq, decide_eq_true_eq]
  repeat' split
  all_goals omega
 rw [e1]
 refine ⟨by omega, fun h => ?_, fun h => ⟨⟨h1, fun _ _ => trivial, by simpa using h1, by omega, h2, fun _ _ => trivial, by simpa using h2, by omega, fun _ _ => trivial, by omega, by omega⟩, ?_⟩⟩
 ·have h := bne_zero.1 h
  by_cases h0 : c.1.length = 0
  ·rw [if_pos h0, if_pos h0]
  ·rw [if_neg h0] at h ⊢
   rw [if_neg h0]
   by_cases h6 : 6 < c.1.length
   ·rw [if_pos h6, if_pos h6]
   ·rw [if_neg h6] at h; exact absurd rfl h
 ·have h := bne_zero'.1 h
  by_cases h0 : c.1.length = 0
  ·rw [if_pos h0] at h; cases h
  ·rw [if_neg h0] at h ⊢
   by_cases h6 : 6 < c.1.length
   ·rw [if_pos h6] at h; cases h
   ·rw [if_neg h6]
    have e2 : (bif ((c.2.1.length : Int) != c.1.length - 1) then (2 : Int) else 0) = if (c.2.1.length : Int) ≠ c.1.length - 1 then 2 else 0 := by
     by_cases h3 : (c.2.1.length : Int) = c.1.length - 1
     ·simp [h3]
     ·have : ((c.2.1.length : Int) != c.1.length - 1) = true := by simpa using h3
      rw [this, if_pos h3]; rfl
    rw [e2]
    rfl
theorem ok74 [Sx.Dr] : Ok Tryz.prog 74 cCab := ok_of_wp mixed g25 (by kernel_rfl) (by kernel_rfl) na fun xx => wp74 xx.1
abbrev G26 : Gam := (74, cCab) :: G25
theorem g26 [Sx.Dr] : GamOk Tryz.prog G26 := .cons ok74 g25
def cCabR : Con := { args := [aCR], ress := [I], owns := [], pre := fun (c, _) => [c.1.length ≤ 1000000, c.2.1.length ≤ 1000000], spec := fun (c, _) => (cabS c, ()) }
theorem firstS_mapd {α : Type} {f : α → Int} {d : α} {l : List α} {k : Nat} (h : k < l.length) : firstS ((l.drop k).map f) = if f (l.getD k d) = 0 then firstS ((l.drop (k + 1)).map f) else f (l.getD k d) := by
 rw [List.drop_eq_getElem_cons h, List.map_cons, List.getD_eq_getElem?_getD, List.getElem?_eq_getElem h]
 rfl
theorem firstS_cons {x : Int} {l : List Int} : firstS (x :: l) = if x = 0 then firstS l else x := rfl
abbrev annCab1 (c : Cab) : Ann := { X := Nat, σ := fun k => ⟨3, [(1, .one (.ptr 2 0)), (3, .one (.int .i64 k))], [(0, .imm 102 sPt c.1), (1, .imm 3 sI c.2.1), (2, .box 26 [.sl 0, .sl 1, .int .i64 c.2.2.1, .int .i64 c.2.2.2])]⟩, inv := fun k => k ≤ c.1.length ∧ c.1.length ≠ 0 ∧ c.1.length ≤ 6 ∧ firstS (c.1.map secS) = firstS ((c.1.drop k).map secS), mu := fun k => c.1.length - k }
abbrev annCab2 (c : Cab) : Ann := { X := Nat, σ := fun k => ⟨3, [(1, .one (.ptr 2 0)), (5, .one (.int .i64 k))], [(0, .imm 102 sPt c.1), (1, .imm 3 sI c.2.1), (2, .box 26 [.sl 0, .sl 1, .int .i64 c.2.2.1, .int .i64 c.2.2.2])]⟩, inv := fun k => k ≤ c.2.1.length ∧ c.1.length ≠ 0 ∧ c.1.length ≤ 6 ∧ firstS (c.1.map secS) = 0 ∧ (c.2.1.length : Int) = c.1.length - 1 ∧ firstS (c.2.1.map facS) = firstS ((c.2.1.drop k).map facS), mu := fun k => c.2.1.length - k }
theorem vc37 : ∀ (c : Cab), wpF Tryz.prog G26 (fun (k : Nat) => if k = 0 then some (annCab1 c) else if k = 2 then some (annCab2 c) else none) Tryz.f37 cCabR (c, ()) = (List.length c.1 ≤ 1000000 → List.length c.2.1 ≤ 1000000 → (((↑(List.length c.1) : Int) == 0) = true → 12 = cabS c) ∧ (((↑(List.length c.1) : Int) == 0) = false → (decide (6 < (↑(List.length c.1) : Int)) = true → 5 = cabS c) ∧ (decide (6 < (↑(List.length c.1) : Int)) = false → ∃ (x : Nat), (0 = (↑x : Int) ∧ c.1 = c.1 ∧ c.2.1 = c.2.1 ∧ c.2.2.1 = c.2.2.1 ∧ c.2.2.2 = c.2.2.2) ∧ (x ≤ List.length c.1 ∧ (List.length c.1 = 0 → False) ∧ List.length c.1 ≤ 6 ∧ firstS (List.map secS c.1) = firstS (List.map secS (List.drop x c.1))) ∧ ∀ (x : Nat), x ≤ List.length c.1 ∧ (List.length c.1 = 0 → False) ∧ List.length c.1 ≤ 6 ∧ firstS (List.map secS c.1) = firstS (List.map secS (List.drop x c.1)) → (decide ((↑x : Int) < (↑(List.length c.1) : Int)) = true → ((0 ≤ (↑x : Int) ∧ (↑x : Int) < (↑(List.length c.1) : Int)) ∧ (0 ≤ (↑x : Int) ∧ (↑x : Int) < (↑(List.length c.1) : Int)) ∧ (0 ≤ (↑x : Int) ∧ (↑x : Int) < (↑(List.length c.1) : Int)) ∧ (0 ≤ (↑x : Int) ∧ (↑x : Int) < (↑(List.length c.1) : Int)) ∧ 2 ≤ 1000000) ∧ ((firstS [withinS (List.getD c.1 x (0, 0)).1 1 100000, withinS (List.getD c.1 x (0, 0)).2 1 64] != 0) = true → firstS [withinS (List.getD c.1 x (0, 0)).1 1 100000, withinS (List.getD c.1 x (0, 0)).2 1 64] = cabS c) ∧ ((firstS [withinS (List.getD c.1 x (0, 0)).1 1 100000, withinS (List.getD c.1 x (0, 0)).2 1 64] != 0) = false → ((-9223372036854775808) ≤ (↑x : Int) + 1 ∧ (↑x : Int) + (1 : Int) ≤ 9223372036854775807) ∧ ∃ (y : Nat), ((↑x : Int) + 1 = (↑y : Int) ∧ c.1 = c.1 ∧ c.2.1 = c.2.1 ∧ c.2.2.1 = c.2.2.1 ∧ c.2.2.2 = c.2.2.2) ∧ (y ≤ List.length c.1 ∧ (List.length c.1 = 0 → False) ∧ List.length c.1 ≤ 6 ∧ firstS (List.map secS c.1) = firstS (List.map secS (List.drop y c.1))) ∧ List.length c.1 - y < List.length c.1 - x)) ∧ (decide ((↑x : Int) < (↑(List.length c.1) : Int)) = false → ((-9223372036854775808) ≤ (↑(List.length c.1) : Int) - 1 ∧ (↑(List.length c.1) : Int) - (1 : Int) ≤ 9223372036854775807) ∧ (((↑(List.length c.2.1) : Int) != (↑(List.length c.1) : Int) - 1) = true → 2 = cabS c) ∧ (((↑(List.length c.2.1) : Int) != (↑(List.length c.1) : Int) - 1) = false → ∃ (x : Nat), (0 = (↑x : Int) ∧ c.1 = c.1 ∧ c.2.1 = c.2.1 ∧ c.2.2.1 = c.2.2.1 ∧ c.2.2.2 = c.2.2.2) ∧ (x ≤ List.length c.2.1 ∧ (List.length c.1 = 0 → False) ∧ List.length c.1 ≤ 6 ∧ firstS (List.map secS c.1) = 0 ∧ (↑(List.length c.2.1) : Int) = (↑(List.length c.1) : Int) - 1 ∧ firstS (List.map facS c.2.1) = firstS (List.map facS (List.drop x c.2.1))) ∧ ∀ (x : Nat), x ≤ List.length c.2.1 ∧ (List.length c.1 = 0 → False) ∧ List.length c.1 ≤ 6 ∧ firstS (List.map secS c.1) = 0 ∧ (↑(List.length c.2.1) : Int) = (↑(List.length c.1) : Int) - 1 ∧ firstS (List.map facS c.2.1) = firstS (List.map facS (List.drop x c.2.1)) → (decide ((↑x : Int) < (↑(List.length c.2.1) : Int)) = true → ((0 ≤ (↑x : Int) ∧ (↑x : Int) < (↑(List.length c.2.1) : Int)) ∧ 0 ≤ (↑x : Int) ∧ (↑x : Int) < (↑(List.length c.2.1) : Int)) ∧ ((withinS (List.getD c.2.1 x 0) (-8) (8 : Int) != 0) = true → withinS (List.getD c.2.1 x 0) (-8) 8 = cabS c) ∧ ((withinS (List.getD c.2.1 x 0) (-8) (8 : Int) != 0) = false → ((-9223372036854775808) ≤ (↑x : Int) + 1 ∧ (↑x : Int) + (1 : Int) ≤ 9223372036854775807) ∧ ∃ (y : Nat), ((↑x : Int) + 1 = (↑y : Int) ∧ c.1 = c.1 ∧ c.2.1 = c.2.1 ∧ c.2.2.1 = c.2.2.1 ∧ c.2.2.2 = c.2.2.2) ∧ (y ≤ List.length c.2.1 ∧ (List.length c.1 = 0 → False) ∧ List.length c.1 ≤ 6 ∧ firstS (List.map secS c.1) = 0 ∧ (↑(List.length c.2.1) : Int) = (↑(List.length c.1) : Int) - 1 ∧ firstS (List.map facS c.2.1) = firstS (List.map facS (List.drop y c.2.1))) ∧ List.length c.2.1 - y < List.length c.2.1 - x)) ∧ (decide ((↑x : Int) < (↑(List.length c.2.1) : Int)) = false → 2 ≤ 1000000 ∧ firstS [withinS c.2.2.1 (-8) 8, withinS c.2.2.2 (-8) 8] = cabS c)))))) := by
 intros
 kernel_rfl
theorem wp37 (c : Cab) : wpF Tryz.prog G26 (fun k => if k = 0 then some (annCab1 c) else if k = 2 then some (annCab2 c) else none) Tryz.f37 cCabR (c, ()) := by
 refine (vc37 c).mpr ?_
 intro h1 h2
 refine ⟨fun h => ?_, fun h => ⟨fun h' => ?_, fun h' => ?_⟩⟩
 ·have h : c.1.length = 0 := by have := eq_of_beq h; omega
  unfold cabS; rw [if_pos h]
 ·have h : ¬ c.1.length = 0 := by have := ne_of_beq_false h; omega
  have h' : 6 < c.1.length := by have := of_decide_eq_true h'; omega
  unfold cabS; rw [if_neg h, if_pos h']
 have h : ¬ c.1.length = 0 := by have := ne_of_beq_false h; omega
 have h' : ¬ 6 < c.1.length := by have := of_decide_eq_false h'; omega
 have hc : cabS c = firstS [firstS (c.1.map secS), (if (c.2.1.length : Int) ≠ c.1.length - 1 then 2 else 0), firstS (c.2.1.map facS), firstS [facS c.2.2.1, facS c.2.2.2]] := by unfold cabS; rw [if_neg h, if_neg h']
 refine ⟨(0 : Nat), ⟨rfl, rfl, rfl, rfl, rfl⟩, ⟨Nat.zero_le _, h, by omega, rfl⟩, ?_⟩
 rintro k ⟨k1, k2, k3, k4⟩
 refine ⟨fun hk => ?_, fun hk => ?_⟩
 ·have hk : k < c.1.length := by have := of_decide_eq_true hk; omega
  have hd := firstS_mapd (f := secS) (d := (0, 0)) hk
  refine ⟨⟨by omega, by omega, by omega, by omega, by omega⟩, fun hb => ?_, fun hb => ⟨by omega, (k + 1 : Nat), ⟨by omega, rfl, rfl, rfl, rfl⟩, ⟨by omega, k2, k3, ?_⟩, by omega⟩⟩
  ·have hb : ¬ secS (c.1.getD k (0, 0)) = 0 := bne_zero.1 hb
   rw [if_neg hb] at hd
   show secS (c.1.getD k (0, 0)) = cabS c
   rw [hc, k4, hd, firstS_cons, if_neg hb]
  ·have hb : secS (c.1.getD k (0, 0)) = 0 := bne_zero'.1 hb
   rw [if_pos hb] at hd
   rw [k4, hd]
 have hk : k = c.1.length := by have := of_decide_eq_false hk; omega
 have hz : firstS (c.1.map secS) = 0 := by rw [k4, hk, List.drop_length]; rfl
 rw [firstS_cons, if_pos hz] at hc
 refine ⟨by omega, fun hj => ?_, fun hj => ?_⟩
 ·have hj : (c.2.1.length : Int) ≠ c.1.length - 1 := by simpa using hj
  rw [if_pos hj] at hc
  rw [hc]; rfl
 have hj : (c.2.1.length : Int) = c.1.length - 1 := by simpa using hj
 rw [if_neg (by simpa using hj), firstS_cons, if_pos rfl] at hc
 refine ⟨(0 : Nat), ⟨rfl, rfl, rfl, rfl, rfl⟩, ⟨Nat.zero_le _, h, by omega, hz, hj, rfl⟩, ?_⟩
 rintro m ⟨m1, m2, m3, m4, m5, m6⟩
 refine ⟨fun hm => ?_, fun hm => ?_⟩
 ·have hm : m < c.2.1.length := by have := of_decide_eq_true hm; omega
  have hd := firstS_mapd (f := facS) (d := (0 : Int)) hm
  refine ⟨⟨by omega, by omega⟩, fun hb => ?_, fun hb => ⟨by omega, (m + 1 : Nat), ⟨by omega, rfl, rfl, rfl, rfl⟩, ⟨by omega, m2, m3, m4, m5, ?_⟩, by omega⟩⟩
  ·have hb : ¬ facS (c.2.1.getD m 0) = 0 := bne_zero.1 hb
   rw [if_neg hb] at hd
   show facS (c.2.1.getD m 0) = cabS c
   rw [hc, m6, hd, firstS_cons, if_neg hb]
  ·have hb : facS (c.2.1.getD m 0) = 0 := bne_zero'.1 hb
   rw [if_pos hb] at hd
   rw [m6, hd]
 have hm : m = c.2.1.length := by have := of_decide_eq_false hm; omega
 have hz2 : firstS (c.2.1.map facS) = 0 := by rw [m6, hm, List.drop_length]; rfl
 rw [firstS_cons, if_pos hz2] at hc
 have h1s : ∀ x : Int, firstS [x] = x := fun x => by unfold firstS; split <;> simp_all [firstS]
 rw [h1s] at hc
 rw [hc]
 exact ⟨by omega, rfl⟩
theorem ok37 [Sx.Dr] : Ok Tryz.prog 37 cCabR := ok_of_wp mixed g26 (by kernel_rfl) (by kernel_rfl) (fun xx => fun k => if k = 0 then some (annCab1 xx.1) else if k = 2 then some (annCab2 xx.1) else none) fun xx => wp37 xx.1
abbrev G27 : Gam := (37, cCabR) :: G26
theorem g27 [Sx.Dr] : GamOk Tryz.prog G27 := .cons ok37 g26
theorem firstS_zero : ∀ {l : List Int}, firstS l = 0 → ∀ x ∈ l, x = 0
 | [], _, x, hx => by simp at hx
 | y :: l, h, x, hx => by
  rw [firstS_cons] at h
  split at h
  ·rename_i e
   rcases List.mem_cons.1 hx with rfl | hx
   ·exact e
   ·exact firstS_zero h x hx
  ·rename_i e; exact absurd h e
theorem within_zero {n lo hi : Int} : withinS n lo hi = 0 ↔ lo ≤ n ∧ n ≤ hi := by
 unfold withinS
 by_cases h1 : n < lo
 ·simp [h1] <;> omega
 ·by_cases h2 : hi < n
  ·simp [h2] <;> omega
  ·simp [h1, h2] <;> omega
def cabV (c : Cab) : Prop := 0 < c.1.length ∧ c.1.length ≤ 6 ∧ (∀ x ∈ c.1, 1 ≤ x.1 ∧ x.1 ≤ 100000 ∧ 1 ≤ x.2 ∧ x.2 ≤ 64) ∧ c.2.1.length + 1 = c.1.length ∧ (∀ n ∈ c.2.1, -8 ≤ n ∧ n ≤ 8) ∧ (-8 ≤ c.2.2.1 ∧ c.2.2.1 ≤ 8) ∧ -8 ≤ c.2.2.2 ∧ c.2.2.2 ≤ 8
theorem cabS_V {c : Cab} (h : cabS c = 0) : cabV c := by
 unfold cabS at h
 split at h
 ·cases h
 rename_i h0
 split at h
 ·cases h
 rename_i h6
 have hz := firstS_zero h
 simp only [List.mem_cons, List.not_mem_nil, or_false, forall_eq_or_imp, forall_eq] at hz
 obtain ⟨a1, a2, a3, a4⟩ := hz
 have a1' := firstS_zero a1
 have a3' := firstS_zero a3
 have a4' := firstS_zero a4
 simp only [List.mem_cons, List.not_mem_nil, or_false, forall_eq_or_imp, forall_eq] at a4'
 have hj : (c.2.1.length : Int) = c.1.length - 1 := by
  by_cases e : (c.2.1.length : Int) = c.1.length - 1
  ·exact e
  ·rw [if_pos e] at a2; cases a2
 refine ⟨by omega, by omega, fun x hx => ?_, by omega, fun n hn => ?_, within_zero.1 a4'.1, within_zero.1 a4'.2⟩
 ·have := firstS_zero (a1' (secS x) (List.mem_map.2 ⟨x, hx, rfl⟩))
  simp only [List.mem_cons, List.not_mem_nil, or_false, forall_eq_or_imp, forall_eq] at this
  have b1 := within_zero.1 this.1
  have b2 := within_zero.1 this.2
  exact ⟨b1.1, b1.2, b2.1, b2.2⟩
 ·exact within_zero.1 (a3' (facS n) (List.mem_map.2 ⟨n, hn, rfl⟩))
def sumS : List (Int × Int) → Int × Int
 | [] => (0, 0)
 | x :: r => (x.1 + (sumS r).1, x.2 + (sumS r).2)
theorem sumS_snoc (l : List (Int × Int)) (x : Int × Int) : sumS (l ++ [x]) = ((sumS l).1 + x.1, (sumS l).2 + x.2) := by
 induction l with
 | nil => simp [sumS]
 | cons y l ih => simp only [List.cons_append, sumS, ih]; ext <;> simp only <;> omega
theorem sumS_bd : ∀ {l : List (Int × Int)}, (∀ x ∈ l, 1 ≤ x.1 ∧ x.1 ≤ 100000 ∧ 1 ≤ x.2 ∧ x.2 ≤ 64) → (l.length : Int) ≤ (sumS l).1 ∧ (sumS l).1 ≤ 100000 * l.length ∧ (l.length : Int) ≤ (sumS l).2 ∧ (sumS l).2 ≤ 64 * l.length
 | [], _ => by simp [sumS]
 | x :: r, h => by
  have h1 := h x (by simp)
  have h2 := sumS_bd (l := r) fun y hy => h y (by simp [hy])
  simp only [sumS, List.length_cons]
  omega
theorem sumS_take {l : List (Int × Int)} {k : Nat} (h : k < l.length) : sumS (l.take (k + 1)) = ((sumS (l.take k)).1 + (l.getD k (0, 0)).1, (sumS (l.take k)).2 + (l.getD k (0, 0)).2) := by
 rw [← take_snoc (d := (0, 0)) h, sumS_snoc]
theorem take_V {l : List (Int × Int)} (h : ∀ x ∈ l, 1 ≤ x.1 ∧ x.1 ≤ 100000 ∧ 1 ≤ x.2 ∧ x.2 ≤ 64) (k : Nat) : ∀ x ∈ l.take k, 1 ≤ x.1 ∧ x.1 ≤ 100000 ∧ 1 ≤ x.2 ∧ x.2 ≤ 64 := fun x hx => h x (List.mem_of_mem_take hx)
def cWhole : Con := { args := [aC], ress := [Pr], owns := [], pre := fun (c, _) => [cabS c = 0], spec := fun (c, _) => (sumS c.1, ()) }
abbrev annWhole (c : Cab) : Ann := { X := Nat, σ := fun k => ⟨5, [(2, .one (.ptr 3 0)), (3, .one (.ptr 4 0)), (7, .one (.sl 0)), (8, .one (.int .i64 c.1.length)), (9, .one (.int .i64 k))], [(0, .imm 166 sPt c.1), (3, .box 24 [.int .i64 0, .int .i64 0]), (4, .box 24 [.int .i64 (sumS (c.1.take k)).1, .int .i64 (sumS (c.1.take k)).2])]⟩, inv := fun k => k ≤ c.1.length, mu := fun k => c.1.length - k }
theorem vc107 : ∀ (c : Cab), wpF Tryz.prog G27 (ann0 (annWhole c)) Tryz.f107 cWhole (c, ()) = (cabS c = 0 → ∃ (x : Nat), ((↑(List.length c.1) : Int) = (↑(List.length c.1) : Int) ∧ 0 = (↑x : Int) ∧ c.1 = c.1 ∧ (0 : Int) = 0 ∧ (0 : Int) = 0 ∧ 0 = (sumS (List.take x c.1)).1 ∧ 0 = (sumS (List.take x c.1)).2) ∧ x ≤ List.length c.1 ∧ ∀ (x : Nat), x ≤ List.length c.1 → (decide ((↑x : Int) < (↑(List.length c.1) : Int)) = true → ((0 ≤ (↑x : Int) ∧ (↑x : Int) < (↑(List.length c.1) : Int)) ∧ 0 ≤ (↑x : Int) ∧ (↑x : Int) < (↑(List.length c.1) : Int)) ∧ (I64 ((sumS (List.take x c.1)).1 + (List.getD c.1 x (0, 0)).1)) ∧ (I64 ((sumS (List.take x c.1)).2 + (List.getD c.1 x (0, 0)).2)) ∧ ((-9223372036854775808) ≤ (↑x : Int) + 1 ∧ (↑x : Int) + (1 : Int) ≤ 9223372036854775807) ∧ ∃ (y : Nat), ((↑(List.length c.1) : Int) = (↑(List.length c.1) : Int) ∧ (↑x : Int) + 1 = (↑y : Int) ∧ c.1 = c.1 ∧ (0 : Int) = 0 ∧ (0 : Int) = 0 ∧ (sumS (List.take x c.1)).1 + (List.getD c.1 x (0, 0)).1 = (sumS (List.take y c.1)).1 ∧ (sumS (List.take x c.1)).2 + (List.getD c.1 x (0, 0)).2 = (sumS (List.take y c.1)).2) ∧ y ≤ List.length c.1 ∧ List.length c.1 - y < List.length c.1 - x) ∧ (decide ((↑x : Int) < (↑(List.length c.1) : Int)) = false → ((sumS (List.take x c.1)).1, (sumS (List.take x c.1)).2) = sumS c.1)) := by
 intros
 kernel_rfl
theorem wp107 (c : Cab) : wpF Tryz.prog G27 (ann0 (annWhole c)) Tryz.f107 cWhole (c, ()) := by
 refine (vc107 c).mpr ?_
 delta I64
 intro h
 have hv : cabV c := cabS_V h
 obtain ⟨v1, v2, v3, v4, v5, v6, v7⟩ := id hv
 refine ⟨(0 : Nat), ⟨rfl, rfl, rfl, rfl, rfl, rfl, rfl⟩, Nat.zero_le _, fun (k : Nat) hk => ⟨fun hlt => ?_, fun hlt => ?_⟩⟩
 ·have hlt : k < c.1.length := by have := of_decide_eq_true hlt; omega
  have e := sumS_take hlt
  have b := sumS_bd (take_V v3 (k + 1))
  have hl : (c.1.take (k + 1)).length ≤ 6 := by rw [List.length_take]; omega
  have b0 := sumS_bd (take_V v3 k)
  rw [e] at b
  dsimp only at b
  refine ⟨by omega, by omega, by omega, by omega, (k + 1 : Nat), ⟨rfl, by omega, rfl, rfl, rfl, by rw [e], by rw [e]⟩, by omega, by omega⟩
 ·have hlt : ¬ k < c.1.length := by have := of_decide_eq_false hlt; omega
  rw [List.take_of_length_le (by omega)]
theorem ok107 [Sx.Dr] : Ok Tryz.prog 107 cWhole := ok_of_wp mixed g27 (by kernel_rfl) (by kernel_rfl) (fun xx => ann0 (annWhole xx.1)) fun xx => wp107 xx.1
abbrev G28 : Gam := (107, cWhole) :: G27
theorem g28 [Sx.Dr] : GamOk Tryz.prog G28 := .cons ok107 g27
abbrev G29 : Gam := G28
theorem g29 [Sx.Dr] : GamOk Tryz.prog G29 := g28
def lengthF (c : Cab) : Int × Int := if cabS c = 0 then sumS c.1 else (0, 0)
def cLength : Con := { args := [aC], ress := [Pr, I], owns := [], pre := fun (c, _) => [c.1.length ≤ 1000000, c.2.1.length ≤ 1000000], spec := fun (c, _) => (lengthF c, cabS c, ()) }
theorem vc56 : ∀ (c : Cab), wpF Tryz.prog G29 (na ()) Tryz.f56 cLength (c, ()) = (List.length c.1 ≤ 1000000 → List.length c.2.1 ≤ 1000000 → (List.length c.1 ≤ 1000000 ∧ List.length c.2.1 ≤ 1000000) ∧ ((cabS (c.1, c.2.1, c.2.2.1, c.2.2.2) != 0) = true → (0, 0) = lengthF c ∧ cabS (c.1, c.2.1, c.2.2.1, c.2.2.2) = cabS c) ∧ ((cabS (c.1, c.2.1, c.2.2.1, c.2.2.2) != 0) = false → cabS (c.1, c.2.1, c.2.2.1, c.2.2.2) = 0 ∧ ((sumS c.1).1, (sumS c.1).2) = lengthF c ∧ 0 = cabS c)) := by
 intros
 kernel_rfl
theorem wp56 (c : Cab) : wpF Tryz.prog G29 (na ()) Tryz.f56 cLength (c, ()) := by
 refine (vc56 c).mpr ?_
 intro h1 h2
 unfold lengthF
 refine ⟨⟨h1, h2⟩, fun h => ?_, fun h => ?_⟩
 ·rw [if_neg (bne_zero.1 h)]; exact ⟨rfl, rfl⟩
 ·have h := bne_zero'.1 h
  rw [if_pos h, h]; exact ⟨rfl, rfl, rfl⟩
theorem ok56 [Sx.Dr] : Ok Tryz.prog 56 cLength := ok_of_wp mixed g29 (by kernel_rfl) (by kernel_rfl) na fun xx => wp56 xx.1
abbrev G30 : Gam := (56, cLength) :: G29
theorem g30 [Sx.Dr] : GamOk Tryz.prog G30 := .cons ok56 g29
def placeGo (den : Int) : List (Int × Int) → Int → Int → Int × Int
 | [], at_, _ => lowestS at_ 1
 | s :: r, at_, num => if num ≤ s.2 * den then lowestS (at_ * s.2 * den + s.1 * num) (s.2 * den) else placeGo den r (at_ + s.1) (num - s.2 * den)
theorem placeGo_drop (den : Int) {l : List (Int × Int)} {k : Nat} (h : k < l.length) (a n : Int) : placeGo den (l.drop k) a n = if n ≤ (l.getD k (0, 0)).2 * den then lowestS (a * (l.getD k (0, 0)).2 * den + (l.getD k (0, 0)).1 * n) ((l.getD k (0, 0)).2 * den) else placeGo den (l.drop (k + 1)) (a + (l.getD k (0, 0)).1) (n - (l.getD k (0, 0)).2 * den) := by
 rw [List.drop_eq_getElem_cons h, List.getD_eq_getElem?_getD, List.getElem?_eq_getElem h]; rfl
theorem lowest_one (n : Int) : lowestS n 1 = (n, 1) := by
 have : gcdS n 1 = 1 := by unfold gcdS; simp
 unfold lowestS; rw [this]; simp
def cPlace : Con := { args := [aC, aI], ress := [Pr], owns := [], pre := fun (c, n, _) => [cabS c = 0, -1000000000000 ≤ n ∧ n ≤ 1000000000000], spec := fun (c, n, _) => (placeGo 2 c.1 0 n, ()) }
abbrev annPlace (c : Cab) (n : Int) : Ann := { X := Nat × Int × Int, σ := fun p => ⟨4, [(1, .one (.int .i64 p.2.2)), (4, .one (.ptr 3 0)), (5, .one (.int .i64 p.2.1)), (9, .one (.sl 0)), (10, .one (.int .i64 c.1.length)), (11, .one (.int .i64 p.1))], [(0, .imm 166 sPt c.1), (3, .box 68 [.int .i64 0, .int .i64 0])]⟩, inv := fun p => p.1 ≤ c.1.length ∧ (0 ≤ p.2.1 ∧ p.2.1 ≤ 100000 * p.1) ∧ (-1000000000000 - 1000 * p.1 ≤ p.2.2 ∧ p.2.2 ≤ 1000000000000 + 1000 * p.1) ∧ placeGo 2 c.1 0 n = placeGo 2 (c.1.drop p.1) p.2.1 p.2.2, mu := fun p => c.1.length - p.1 }
def vc108_0 (c : Cab) (n : Int) (x : Nat × Int × Int) := (List.getD c.1 x.1 ((0 : Int), (0 : Int)))
def vc108_1 (c : Cab) (n : Int) (x : Nat × Int × Int) := ((-9223372036854775808 : Int) ≤ (2 : Int) * (vc108_0 c n x).2 ∧ (2 : Int) * (vc108_0 c n x).2 ≤ (9223372036854775807 : Int))
theorem vc108 : ∀ (c : Cab) (n : Int), wpF Tryz.prog G30 (ann0 (annPlace c n)) Tryz.f108 cPlace (c, n, ()) = (cabS c = 0 → (-1000000000000) ≤ n ∧ n ≤ 1000000000000 → ∃ (x : Nat × Int × Int), (n = x.2.2 ∧ 0 = x.2.1 ∧ (↑(List.length c.1) : Int) = (↑(List.length c.1) : Int) ∧ 0 = (↑x.1 : Int) ∧ c.1 = c.1 ∧ (0 : Int) = 0 ∧ (0 : Int) = 0) ∧ (x.1 ≤ List.length c.1 ∧ (0 ≤ x.2.1 ∧ x.2.1 ≤ 100000 * (↑x.1 : Int)) ∧ ((-1000000000000 : Int) - 1000 * (↑x.1 : Int) ≤ x.2.2 ∧ x.2.2 ≤ (1000000000000 : Int) + 1000 * (↑x.1 : Int)) ∧ placeGo 2 c.1 0 n = placeGo 2 (List.drop x.1 c.1) x.2.1 x.2.2) ∧ ∀ (x : Nat × Int × Int), x.1 ≤ List.length c.1 ∧ (0 ≤ x.2.1 ∧ x.2.1 ≤ 100000 * (↑x.1 : Int)) ∧ ((-1000000000000 : Int) - 1000 * (↑x.1 : Int) ≤ x.2.2 ∧ x.2.2 ≤ (1000000000000 : Int) + 1000 * (↑x.1 : Int)) ∧ placeGo 2 c.1 0 n = placeGo 2 (List.drop x.1 c.1) x.2.1 x.2.2 → (decide ((↑x.1 : Int) < (↑(List.length c.1) : Int)) = true → ((0 ≤ (↑x.1 : Int) ∧ (↑x.1 : Int) < (↑(List.length c.1) : Int)) ∧ 0 ≤ (↑x.1 : Int) ∧ (↑x.1 : Int) < (↑(List.length c.1) : Int)) ∧ (vc108_1 c n x) ∧ (decide (x.2.2 ≤ 2 * (vc108_0 c n x).2) = true → ((vc108_1 c n x) ∧ ((-9223372036854775808 : Int) ≤ 2 * (vc108_0 c n x).2 * x.2.1 ∧ 2 * (vc108_0 c n x).2 * x.2.1 ≤ 9223372036854775807) ∧ (I64 ((vc108_0 c n x).1 * x.2.2)) ∧ ((-9223372036854775808 : Int) ≤ 2 * (vc108_0 c n x).2 * x.2.1 + (vc108_0 c n x).1 * x.2.2 ∧ 2 * (vc108_0 c n x).2 * x.2.1 + (vc108_0 c n x).1 * x.2.2 ≤ 9223372036854775807) ∧ (vc108_1 c n x) ∧ ((-9200000000000000000 : Int) ≤ 2 * (vc108_0 c n x).2 * x.2.1 + (vc108_0 c n x).1 * x.2.2 ∧ 2 * (vc108_0 c n x).2 * x.2.1 + (vc108_0 c n x).1 * x.2.2 ≤ 9200000000000000000) ∧ (0 : Int) < 2 * (vc108_0 c n x).2 ∧ 2 * (vc108_0 c n x).2 ≤ 9200000000000000000) ∧ ((lowestS (2 * (vc108_0 c n x).2 * x.2.1 + (vc108_0 c n x).1 * x.2.2) (2 * (vc108_0 c n x).2)).1, (lowestS (2 * (vc108_0 c n x).2 * x.2.1 + (vc108_0 c n x).1 * x.2.2) (2 * (vc108_0 c n x).2)).2) = placeGo 2 c.1 0 n) ∧ (decide (x.2.2 ≤ 2 * (vc108_0 c n x).2) = false → ((vc108_1 c n x) ∧ I64 (x.2.2 - 2 * (vc108_0 c n x).2)) ∧ (I64 (x.2.1 + (vc108_0 c n x).1)) ∧ ((-9223372036854775808) ≤ (↑x.1 : Int) + 1 ∧ (↑x.1 : Int) + (1 : Int) ≤ 9223372036854775807) ∧ ∃ (y : Nat × Int × Int), (x.2.2 - 2 * (vc108_0 c n x).2 = y.2.2 ∧ x.2.1 + (vc108_0 c n x).1 = y.2.1 ∧ (↑(List.length c.1) : Int) = (↑(List.length c.1) : Int) ∧ (↑x.1 : Int) + 1 = (↑y.1 : Int) ∧ c.1 = c.1 ∧ (0 : Int) = 0 ∧ (0 : Int) = 0) ∧ (y.1 ≤ List.length c.1 ∧ (0 ≤ y.2.1 ∧ y.2.1 ≤ 100000 * (↑y.1 : Int)) ∧ ((-1000000000000 : Int) - 1000 * (↑y.1 : Int) ≤ y.2.2 ∧ y.2.2 ≤ (1000000000000 : Int) + 1000 * (↑y.1 : Int)) ∧ placeGo 2 c.1 0 n = placeGo 2 (List.drop y.1 c.1) y.2.1 y.2.2) ∧ List.length c.1 - y.1 < List.length c.1 - x.1)) ∧ (decide ((↑x.1 : Int) < (↑(List.length c.1) : Int)) = false → (x.2.1, 1) = placeGo 2 c.1 0 n)) := by
 intros
 kernel_rfl
theorem wp108 (c : Cab) (n : Int) : wpF Tryz.prog G30 (ann0 (annPlace c n)) Tryz.f108 cPlace (c, n, ()) := by
 refine (vc108 c n).mpr ?_
 delta vc108_0 vc108_1
 delta I64
 intro h hn
 have hv : cabV c := cabS_V h
 obtain ⟨v1, v2, v3, v4, v5, v6, v7⟩ := id hv
 refine ⟨(0, 0, n), ⟨rfl, rfl, rfl, rfl, rfl, rfl, rfl⟩, ⟨Nat.zero_le _, by dsimp only; omega, by dsimp only; omega, rfl⟩, ?_⟩
 rintro ⟨k, a, m⟩ ⟨k1, k2, k3, k4⟩
 dsimp only at k1 k2 k3 k4 ⊢
 refine ⟨fun hlt => ?_, fun hlt => ?_⟩
 ·have hlt : k < c.1.length := by have := of_decide_eq_true hlt; omega
  have hd := placeGo_drop 2 hlt a m
  have hs := v3 _ (getD_mem (d := (0, 0)) hlt)
  generalize c.1.getD k (0, 0) = s at *
  have e2 : s.2 * 2 = 2 * s.2 := Int.mul_comm _ _
  rw [e2] at hd
  refine ⟨by omega, by omega, fun hc => ?_, fun hc => ?_⟩
  ·have hc : m ≤ 2 * s.2 := of_decide_eq_true hc
   rw [if_pos hc] at hd
   have m1 := mul_bd (a := 2 * s.2) (b := a) (A := 128) (B := 600000) ⟨by omega, by omega⟩ ⟨by omega, by omega⟩
   have m2 := mul_bd (a := s.1) (b := m) (A := 100000) (B := 1000000006000) ⟨by omega, by omega⟩ ⟨by omega, by omega⟩
   have e3 : a * s.2 * 2 = 2 * s.2 * a := by rw [Int.mul_assoc, e2, Int.mul_comm]
   rw [k4, hd, e3]
   generalize 2 * s.2 * a = u at *
   generalize s.1 * m = v at *
   exact ⟨by omega, rfl⟩
  ·have hc : ¬ m ≤ 2 * s.2 := of_decide_eq_false hc
   rw [if_neg hc] at hd
   refine ⟨⟨by omega, by omega⟩, by omega, by omega, (k + 1, a + s.1, m - 2 * s.2), ⟨rfl, rfl, rfl, by simp, rfl, rfl, rfl⟩, ⟨by dsimp only; omega, by dsimp only; omega, by dsimp only; omega, ?_⟩, by dsimp only; omega⟩
   rw [k4, hd]
 ·have hlt : ¬ k < c.1.length := by have := of_decide_eq_false hlt; omega
  rw [k4, List.drop_eq_nil_of_le (by omega)]
  show (a, 1) = _
  exact (lowest_one a).symm
theorem ok108 [Sx.Dr] : Ok Tryz.prog 108 cPlace := ok_of_wp mixed g30 (by kernel_rfl) (by kernel_rfl) (fun xx => ann0 (annPlace xx.1 xx.2.1)) fun xx => wp108 xx.1 xx.2.1
abbrev G31 : Gam := (108, cPlace) :: G30
theorem g31 [Sx.Dr] : GamOk Tryz.prog G31 := .cons ok108 g30
abbrev G32 : Gam := G31
theorem g32 [Sx.Dr] : GamOk Tryz.prog G32 := g31
def placeE (c : Cab) (t : Int) : Int := if cabS c = 0 then withinS t 0 (sumS c.1).2 else cabS c
def placeF (c : Cab) (t : Int) : Int × Int := if placeE c t = 0 then placeGo 2 c.1 0 (2 * t) else (0, 0)
def cXPlace : Con := { args := [aC, aI], ress := [Pr, I], owns := [], pre := fun (c, t, _) => [c.1.length ≤ 1000000, c.2.1.length ≤ 1000000], spec := fun (c, t, _) => (placeF c t, placeE c t, ()) }
theorem vc53 : ∀ (c : Cab) (t : Int), wpF Tryz.prog G32 (na ()) Tryz.f53 cXPlace (c, t, ()) = (List.length c.1 ≤ 1000000 → List.length c.2.1 ≤ 1000000 → (List.length c.1 ≤ 1000000 ∧ List.length c.2.1 ≤ 1000000) ∧ ((cabS (c.1, c.2.1, c.2.2.1, c.2.2.2) != 0) = true → (0, 0) = placeF c t ∧ cabS (c.1, c.2.1, c.2.2.1, c.2.2.2) = placeE c t) ∧ ((cabS (c.1, c.2.1, c.2.2.1, c.2.2.2) != 0) = false → cabS (c.1, c.2.1, c.2.2.1, c.2.2.2) = 0 ∧ ((withinS t 0 (sumS c.1).2 != 0) = true → (0, 0) = placeF c t ∧ withinS t 0 (sumS c.1).2 = placeE c t) ∧ ((withinS t 0 (sumS c.1).2 != 0) = false → (((-9223372036854775808 : Int) ≤ 2 * t ∧ 2 * t ≤ 9223372036854775807) ∧ cabS (c.1, c.2.1, c.2.2.1, c.2.2.2) = 0 ∧ (-1000000000000 : Int) ≤ 2 * t ∧ 2 * t ≤ 1000000000000) ∧ ((placeGo 2 c.1 0 (2 * t)).1, (placeGo 2 c.1 0 (2 * t)).2) = placeF c t ∧ 0 = placeE c t))) := by
 intros
 kernel_rfl
theorem wp53 (c : Cab) (t : Int) : wpF Tryz.prog G32 (na ()) Tryz.f53 cXPlace (c, t, ()) := by
 refine (vc53 c t).mpr ?_
 intro h1 h2
 unfold placeF placeE
 refine ⟨⟨h1, h2⟩, fun h => ?_, fun h => ?_⟩
 ·have h := bne_zero.1 h
  rw [if_neg h, if_neg h]; exact ⟨rfl, rfl⟩
 ·have h := bne_zero'.1 h
  rw [if_pos h]
  have hv : cabV c := cabS_V h
  obtain ⟨v1, v2, v3, v4, v5, v6, v7⟩ := id hv
  have b := sumS_bd v3
  refine ⟨h, fun h' => ?_, fun h' => ?_⟩
  ·have h' := bne_zero.1 h'
   rw [if_neg h']; exact ⟨rfl, rfl⟩
  ·have h' := bne_zero'.1 h'
   have hw : 0 ≤ t ∧ t ≤ (sumS c.1).2 := within_zero.1 h'
   rw [if_pos h', h']
   exact ⟨⟨by omega, h, by omega⟩, rfl, rfl⟩
theorem ok53 [Sx.Dr] : Ok Tryz.prog 53 cXPlace := ok_of_wp mixed g32 (by kernel_rfl) (by kernel_rfl) na fun xx => wp53 xx.1 xx.2.1
abbrev G33 : Gam := (53, cXPlace) :: G32
theorem g33 [Sx.Dr] : GamOk Tryz.prog G33 := .cons ok53 g32
abbrev Flt : Type := Int × Int × Int × Int
abbrev sFlt : Sch := .prod sI (.prod sI (.prod sI sI))
abbrev aF : AK := .val true sFlt
def secE (c : Cab) (s : Int) : Int := bif decide (s < 0) || decide ((c.1.length : Int) ≤ s) then 10 else 0
def offE (c : Cab) (s t : Int) : Int := withinS t 1 ((c.1.getD s.toNat (0, 0)).2 - 1)
def cSecE : Con := { args := [aC, aI], ress := [I], owns := [], pre := fun (c, _) => [c.1.length ≤ 1000000], spec := fun (c, s, _) => (secE c s, ()) }
theorem vc103 : ∀ (c : Cab) (s : Int), wpF Tryz.prog G33 (na ()) Tryz.f103 cSecE (c, s, ()) = (List.length c.1 ≤ 1000000 → (bif bif decide (s < 0) then true else decide ((↑(List.length c.1) : Int) ≤ s) then 10 else 0) = secE c s) := by
 intros
 kernel_rfl
theorem wp103 (c : Cab) (s : Int) : wpF Tryz.prog G33 (na ()) Tryz.f103 cSecE (c, s, ()) := by
 refine (vc103 c s).mpr ?_
 intro _
 unfold secE
 cases decide (s < 0) <;> rfl
theorem ok103 [Sx.Dr] : Ok Tryz.prog 103 cSecE := ok_of_wp mixed g33 (by kernel_rfl) (by kernel_rfl) na fun xx => wp103 xx.1 xx.2.1
abbrev G34 : Gam := (103, cSecE) :: G33
theorem g34 [Sx.Dr] : GamOk Tryz.prog G34 := .cons ok103 g33
def cOffE : Con := { args := [aC, aI, aI], ress := [I], owns := [], pre := fun (c, s, _) => [cabS c = 0, 0 ≤ s ∧ s < c.1.length], spec := fun (c, s, t, _) => (offE c s t, ()) }
theorem vc104 : ∀ (c : Cab) (s t : Int), wpF Tryz.prog G34 (na ()) Tryz.f104 cOffE (c, s, t, ()) = (cabS c = 0 → 0 ≤ s ∧ s < (↑(List.length c.1) : Int) → ((0 ≤ s ∧ s < (↑(List.length c.1) : Int)) ∧ (0 ≤ s ∧ s < (↑(List.length c.1) : Int)) ∧ (-9223372036854775808) ≤ (List.getD c.1 (Int.toNat s) (0, 0)).2 - 1 ∧ (List.getD c.1 (Int.toNat s) (0, 0)).2 - (1 : Int) ≤ 9223372036854775807) ∧ withinS t 1 ((List.getD c.1 (Int.toNat s) (0, 0)).2 - 1) = offE c s t) := by
 intros
 kernel_rfl
theorem wp104 (c : Cab) (s t : Int) : wpF Tryz.prog G34 (na ()) Tryz.f104 cOffE (c, s, t, ()) := by
 refine (vc104 c s t).mpr ?_
 intro h hs
 have hv : cabV c := cabS_V h
 have b := hv.2.2.1 _ (getD_mem (d := (0, 0)) (l := c.1) (k := s.toNat) (by omega))
 exact ⟨by omega, rfl⟩
theorem ok104 [Sx.Dr] : Ok Tryz.prog 104 cOffE := ok_of_wp mixed g34 (by kernel_rfl) (by kernel_rfl) na fun xx => wp104 xx.1 xx.2.1 xx.2.2.1
abbrev G35 : Gam := (104, cOffE) :: G34
theorem g35 [Sx.Dr] : GamOk Tryz.prog G35 := .cons ok104 g34
theorem first_one {x : Int} : firstS [x] = x := by unfold firstS; split <;> simp_all [firstS]
def fltS (c : Cab) (f : Flt) : Int :=
 if cabS c = 0 then if secE c f.1 = 0 then firstS [offE c f.1 f.2.1, withinS f.2.2.1 0 100000, withinS f.2.2.2 (-1024) 1024, if f.2.2.2 = 0 then 6 else 0] else 10 else cabS c
theorem secE_zero {c : Cab} {s : Int} : secE c s = 0 ↔ 0 ≤ s ∧ s < c.1.length := by
 unfold secE
 by_cases h1 : s < 0
 ·simp [h1] <;> omega
 ·by_cases h2 : (c.1.length : Int) ≤ s
  ·simp [h2] <;> omega
  ·simp [h1, h2] <;> omega
theorem secE_cases (c : Cab) (s : Int) : secE c s = 0 ∨ secE c s = 10 := by
 unfold secE
 cases (decide (s < 0) || decide ((c.1.length : Int) ≤ s)) <;> simp
theorem zero_ite {n : Int} (e : Int) : (bif n == 0 then e else 0) = if n = 0 then e else 0 := by
 by_cases h : n = 0
 ·simp [h]
 ·have : (n == 0) = false := by simpa using h
  rw [this, if_neg h]; rfl
def cFlt : Con := { args := [aC, aF], ress := [I], owns := [], pre := fun (c, _) => [c.1.length ≤ 1000000, c.2.1.length ≤ 1000000], spec := fun (c, f, _) => (fltS c f, ()) }
def vc30_0 (c : Cab) (f : Flt) := (c.1, c.2.1, c.2.2.1, c.2.2.2)
theorem vc30 : ∀ (c : Cab) (f : Flt), wpF Tryz.prog G35 (na ()) Tryz.f30 cFlt (c, f, ()) = (List.length c.1 ≤ 1000000 → List.length c.2.1 ≤ 1000000 → (List.length c.1 ≤ 1000000 ∧ List.length c.2.1 ≤ 1000000 ∧ List.length c.1 ≤ 1000000 ∧ 2 ≤ 1000000) ∧ ((firstS [cabS (vc30_0 c f), secE (vc30_0 c f) f.1] != 0) = true → firstS [cabS (vc30_0 c f), secE (vc30_0 c f) f.1] = fltS c f) ∧ ((firstS [cabS (vc30_0 c f), secE (vc30_0 c f) f.1] != 0) = false → (cabS (vc30_0 c f) = 0 ∧ (0 ≤ f.1 ∧ f.1 < (↑(List.length c.1) : Int)) ∧ 4 ≤ 1000000) ∧ firstS [offE (vc30_0 c f) f.1 f.2.1, withinS f.2.2.1 0 100000, withinS f.2.2.2 (-1024) 1024, bif f.2.2.2 == 0 then 6 else 0] = fltS c f)) := by
 intros
 kernel_rfl
theorem wp30 (c : Cab) (f : Flt) : wpF Tryz.prog G35 (na ()) Tryz.f30 cFlt (c, f, ()) := by
 refine (vc30 c f).mpr ?_
 delta vc30_0
 intro h1 h2
 have e1 : firstS [cabS c, secE c f.1] = if cabS c = 0 then secE c f.1 else cabS c := by
  rw [firstS_cons]; split
  ·exact first_one
  ·rfl
 refine ⟨⟨h1, h2, h1, by omega⟩, fun h => ?_, fun h => ?_⟩
 ·have h : ¬ firstS [cabS c, secE c f.1] = 0 := bne_zero.1 h
  show firstS [cabS c, secE c f.1] = _
  rw [e1] at h ⊢
  unfold fltS
  by_cases hc : cabS c = 0
  ·rw [if_pos hc] at h
   rw [if_pos hc, if_pos hc, if_neg h]
   exact (secE_cases c f.1).resolve_left h
  ·rw [if_neg hc, if_neg hc]
 ·have h : firstS [cabS c, secE c f.1] = 0 := bne_zero'.1 h
  rw [e1] at h
  have hc : cabS c = 0 := by
   by_cases hc : cabS c = 0
   ·exact hc
   ·rw [if_neg hc] at h; exact absurd h hc
  rw [if_pos hc] at h
  refine ⟨⟨hc, secE_zero.1 h, by omega⟩, ?_⟩
  unfold fltS
  rw [if_pos hc, if_pos h, zero_ite]
theorem ok30 [Sx.Dr] : Ok Tryz.prog 30 cFlt := ok_of_wp mixed g35 (by kernel_rfl) (by kernel_rfl) na fun xx => wp30 xx.1 xx.2.1
abbrev G36 : Gam := (30, cFlt) :: G35
theorem g36 [Sx.Dr] : GamOk Tryz.prog G36 := .cons ok30 g35
abbrev G37 : Gam := G36
theorem g37 [Sx.Dr] : GamOk Tryz.prog G37 := g36
def winS (c : Cab) (f : Flt) (w : Int) : Int := firstS [fltS c f, withinS w 0 1000]
def cWinC : Con := { args := [aC, aF, aI], ress := [I], owns := [], pre := fun (c, _) => [c.1.length ≤ 1000000, c.2.1.length ≤ 1000000], spec := fun (c, f, w, _) => (winS c f w, ()) }
theorem vc84 : ∀ (c : Cab) (f : Flt) (w : Int), wpF Tryz.prog G37 (na ()) Tryz.f84 cWinC (c, f, w, ()) = (List.length c.1 ≤ 1000000 → List.length c.2.1 ≤ 1000000 → (List.length c.1 ≤ 1000000 ∧ List.length c.2.1 ≤ 1000000 ∧ 2 ≤ 1000000) ∧ firstS [fltS (c.1, c.2.1, c.2.2.1, c.2.2.2) (f.1, f.2.1, f.2.2.1, f.2.2.2), withinS w 0 1000] = winS c f w) := by
 intros
 kernel_rfl
theorem wp84 (c : Cab) (f : Flt) (w : Int) : wpF Tryz.prog G37 (na ()) Tryz.f84 cWinC (c, f, w, ()) := by
 refine (vc84 c f w).mpr ?_
 intro h1 h2
 exact ⟨⟨h1, h2, by omega⟩, rfl⟩
theorem ok84 [Sx.Dr] : Ok Tryz.prog 84 cWinC := ok_of_wp mixed g37 (by kernel_rfl) (by kernel_rfl) na fun xx => wp84 xx.1 xx.2.1 xx.2.2.1
abbrev G38 : Gam := (84, cWinC) :: G37
theorem g38 [Sx.Dr] : GamOk Tryz.prog G38 := .cons ok84 g37
def fltV (c : Cab) (f : Flt) : Prop := cabV c ∧ (0 ≤ f.1 ∧ f.1 < c.1.length) ∧ (1 ≤ f.2.1 ∧ f.2.1 < (c.1.getD f.1.toNat (0, 0)).2) ∧ (0 ≤ f.2.2.1 ∧ f.2.2.1 ≤ 100000) ∧ (-1024 ≤ f.2.2.2 ∧ f.2.2.2 ≤ 1024) ∧ f.2.2.2 ≠ 0
theorem fltS_V {c : Cab} {f : Flt} (h : fltS c f = 0) : cabS c = 0 ∧ fltV c f := by
 unfold fltS at h
 split at h
 ·rename_i hc
  split at h
  ·rename_i hs
   have hz := firstS_zero h
   simp only [List.mem_cons, List.not_mem_nil, or_false, forall_eq_or_imp, forall_eq] at hz
   obtain ⟨a1, a2, a3, a4⟩ := hz
   have b1 := within_zero.1 a1
   have b2 := within_zero.1 a2
   have b3 := within_zero.1 a3
   have b4 : f.2.2.2 ≠ 0 := fun e => by rw [if_pos e] at a4; cases a4
   exact ⟨hc, cabS_V hc, secE_zero.1 hs, ⟨b1.1, by omega⟩, b2, b3, b4⟩
  ·cases h
 ·rename_i hc; exact absurd h hc
def tickE (x : Int × Int) : Int := firstS [withinS x.1 0 999999999, withinS x.2 0 999999999, bif decide (x.2 < x.1) then 11 else 0]
def cTicks : Con := { args := [aP], ress := [I], owns := [], pre := fun _ => [], spec := fun (x, _) => (tickE x, ()) }
theorem vc106 : ∀ (x : Int × Int), wpF Tryz.prog G38 (na ()) Tryz.f106 cTicks (x, ()) = (3 ≤ 1000000 ∧ firstS [withinS x.1 0 999999999, withinS x.2 0 999999999, bif decide (x.2 < x.1) then 11 else 0] = tickE x) := by
 intros
 kernel_rfl
theorem wp106 (x : Int × Int) : wpF Tryz.prog G38 (na ()) Tryz.f106 cTicks (x, ()) := by
 refine (vc106 x).mpr ?_
 exact ⟨by omega, rfl⟩
theorem ok106 [Sx.Dr] : Ok Tryz.prog 106 cTicks := ok_of_wp mixed g38 (by kernel_rfl) (by kernel_rfl) na fun xx => wp106 xx.1
abbrev G39 : Gam := (106, cTicks) :: G38
theorem g39 [Sx.Dr] : GamOk Tryz.prog G39 := .cons ok106 g38
abbrev G40 : Gam := G39
theorem g40 [Sx.Dr] : GamOk Tryz.prog G40 := g39
abbrev sRR : Sch := .prod sI (.prod sI (.prod sI sI))
def lowF (c : Cab) (a b : Int × Int) : Int := max 0 ((sumS c.1).2 + a.1 - b.2)
def highF (c : Cab) (a b : Int × Int) : Int := min (2 * (sumS c.1).2) ((sumS c.1).2 + a.2 - b.1)
abbrev RR : Type := Int × Int × Int × Int
def rr (x y : Int × Int) : RR := (x.1, x.2, y.1, y.2)
def locG (c : Cab) (a b : Int × Int) : RR := if highF c a b < lowF c a b then (0, 0, 0, 0) else rr (placeGo 2 c.1 0 (lowF c a b)) (placeGo 2 c.1 0 (highF c a b))
def locGE (c : Cab) (a b : Int × Int) : Int := if highF c a b < lowF c a b then 7 else 0
def locE (c : Cab) (a b : Int × Int) : Int := if firstS [cabS c, tickE a, tickE b] = 0 then locGE c a b else firstS [cabS c, tickE a, tickE b]
def locF (c : Cab) (a b : Int × Int) : RR := if firstS [cabS c, tickE a, tickE b] = 0 then locG c a b else (0, 0, 0, 0)
theorem tickE_V {x : Int × Int} (h : tickE x = 0) : 0 ≤ x.1 ∧ x.1 ≤ x.2 ∧ x.2 ≤ 999999999 := by
 have hz := firstS_zero h
 simp only [List.mem_cons, List.not_mem_nil, or_false, forall_eq_or_imp, forall_eq] at hz
 obtain ⟨a1, a2, a3⟩ := hz
 have b1 := within_zero.1 a1
 have b2 := within_zero.1 a2
 have b3 : ¬ x.2 < x.1 := fun e => by simp [e] at a3
 omega
def cLocate : Con := { args := [aC, aP, aP], ress := [(true, sRR), I], owns := [], pre := fun (c, _) => [c.1.length ≤ 1000000, c.2.1.length ≤ 1000000], spec := fun (c, a, b, _) => (locF c a b, locE c a b, ()) }
theorem loc_bd {c : Cab} {a b : Int × Int} (h : firstS [cabS c, tickE a, tickE b] = 0) : cabS c = 0 ∧ (1 ≤ (sumS c.1).2 ∧ (sumS c.1).2 ≤ 384) ∧ (0 ≤ a.1 ∧ a.1 ≤ a.2 ∧ a.2 ≤ 999999999) ∧ 0 ≤ b.1 ∧ b.1 ≤ b.2 ∧ b.2 ≤ 999999999 := by
 have hz := firstS_zero h
 simp only [List.mem_cons, List.not_mem_nil, or_false, forall_eq_or_imp, forall_eq] at hz
 obtain ⟨a1, a2, a3⟩ := hz
 obtain ⟨v1, v2, v3, _⟩ := cabS_V a1
 have b1 := sumS_bd v3
 exact ⟨a1, by omega, tickE_V a2, tickE_V a3⟩
theorem vc36 : ∀ (c : Cab) (a b : Int × Int), wpF Tryz.prog G40 (na ()) Tryz.f36 cLocate (c, a, b, ()) = (List.length c.1 ≤ 1000000 → List.length c.2.1 ≤ 1000000 → (List.length c.1 ≤ 1000000 ∧ List.length c.2.1 ≤ 1000000 ∧ 3 ≤ 1000000) ∧ ((firstS [cabS (c.1, c.2.1, c.2.2.1, c.2.2.2), tickE (a.1, a.2), tickE (b.1, b.2)] != 0) = true → (0, 0, 0, 0) = locF c a b ∧ firstS [cabS (c.1, c.2.1, c.2.2.1, c.2.2.2), tickE (a.1, a.2), tickE (b.1, b.2)] = locE c a b) ∧ ((firstS [cabS (c.1, c.2.1, c.2.2.1, c.2.2.2), tickE (a.1, a.2), tickE (b.1, b.2)] != 0) = false → cabS (c.1, c.2.1, c.2.2.1, c.2.2.2) = 0 ∧ ((I64 ((sumS c.1).2 + a.1)) ∧ (I64 ((sumS c.1).2 + a.1 - b.2)) ∧ ((-9223372036854775808 : Int) ≤ 2 * (sumS c.1).2 ∧ 2 * (sumS c.1).2 ≤ 9223372036854775807) ∧ (I64 ((sumS c.1).2 + a.2)) ∧ I64 ((sumS c.1).2 + a.2 - b.1)) ∧ (decide (min (2 * (sumS c.1).2) ((sumS c.1).2 + a.2 - b.1) < max 0 ((sumS c.1).2 + a.1 - b.2)) = true → (0, 0, 0, 0) = locF c a b ∧ 7 = locE c a b) ∧ (decide (min (2 * (sumS c.1).2) ((sumS c.1).2 + a.2 - b.1) < max 0 ((sumS c.1).2 + a.1 - b.2)) = false → (cabS (c.1, c.2.1, c.2.2.1, c.2.2.2) = 0 ∧ ((-1000000000000) ≤ max 0 ((sumS c.1).2 + a.1 - b.2) ∧ max 0 ((sumS c.1).2 + a.1 - b.2) ≤ 1000000000000) ∧ cabS (c.1, c.2.1, c.2.2.1, c.2.2.2) = 0 ∧ (-1000000000000) ≤ min (2 * (sumS c.1).2) ((sumS c.1).2 + a.2 - b.1) ∧ min (2 * (sumS c.1).2) ((sumS c.1).2 + a.2 - b.1) ≤ 1000000000000) ∧ ((placeGo 2 c.1 0 (max 0 ((sumS c.1).2 + a.1 - b.2))).1, (placeGo 2 c.1 0 (max 0 ((sumS c.1).2 + a.1 - b.2))).2, (placeGo 2 c.1 0 (min (2 * (sumS c.1).2) ((sumS c.1).2 + a.2 - b.1))).1, (placeGo 2 c.1 0 (min (2 * (sumS c.1).2) ((sumS c.1).2 + a.2 - b.1))).2) = locF c a b ∧ 0 = locE c a b))) := by
 intros
 kernel_rfl
theorem wp36 (c : Cab) (a b : Int × Int) : wpF Tryz.prog G40 (na ()) Tryz.f36 cLocate (c, a, b, ()) := by
 refine (vc36 c a b).mpr ?_
 delta I64
 intro h1 h2
 unfold locF locE
 refine ⟨⟨h1, h2, by omega⟩, fun h => ?_, fun h => ?_⟩
 ·have h : ¬ firstS [cabS c, tickE a, tickE b] = 0 := bne_zero.1 h
  rw [if_neg h, if_neg h]; exact ⟨rfl, rfl⟩
 ·have h : firstS [cabS c, tickE a, tickE b] = 0 := bne_zero'.1 h
  obtain ⟨hc, b1, b2, b3⟩ := loc_bd h
  rw [if_pos h, if_pos h]
  have b1 : 1 ≤ (sumS c.1).2 ∧ (sumS c.1).2 ≤ 384 := b1
  unfold locG locGE lowF highF
  generalize (sumS c.1).2 = L at b1 ⊢
  refine ⟨hc, by omega, fun h' => ?_, fun h' => ?_⟩
  ·have h' := of_decide_eq_true h'
   rw [if_pos h', if_pos h']; exact ⟨rfl, rfl⟩
  ·have h' := of_decide_eq_false h'
   rw [if_neg h', if_neg h']
   exact ⟨⟨hc, by omega, hc, by omega, by omega⟩, rfl, rfl⟩
theorem ok36 [Sx.Dr] : Ok Tryz.prog 36 cLocate := ok_of_wp mixed g40 (by kernel_rfl) (by kernel_rfl) na fun xx => wp36 xx.1 xx.2.1 xx.2.2.1
abbrev G41 : Gam := (36, cLocate) :: G40
theorem g41 [Sx.Dr] : GamOk Tryz.prog G41 := .cons ok36 g40
abbrev G42 : Gam := G41
theorem g42 [Sx.Dr] : GamOk Tryz.prog G42 := g41
abbrev Stp : Type := Int × Int × Bool × Int × Int
abbrev sStp : Sch := .prod sI (.prod sI (.prod .bool (.prod sI sI)))
abbrev aW : AK := .val true sStp
abbrev RStp : Bool × Sch := (true, sStp)
def aheadS (w : Stp) (r : Bool) : Int × Int := bif r then (w.2.1 + 1, w.2.1) else (w.2.1 - 1, w.2.1 - 1)
def cAhead : Con := { args := [aW, aB], ress := [I, I], owns := [], pre := fun (w, _) => [-1000 ≤ w.2.1 ∧ w.2.1 ≤ 1000], spec := fun (w, r, _) => ((aheadS w r).1, (aheadS w r).2, ()) }
theorem vc202 : ∀ (w : Stp) (r : Bool), wpF Tryz.prog G42 (na ()) Tryz.f202 cAhead (w, r, ()) = ((-1000) ≤ w.2.1 ∧ w.2.1 ≤ 1000 → (r = true → ((-9223372036854775808) ≤ w.2.1 + 1 ∧ w.2.1 + (1 : Int) ≤ 9223372036854775807) ∧ w.2.1 + 1 = (aheadS w r).1 ∧ w.2.1 = (aheadS w r).2) ∧ (r = false → (((-9223372036854775808) ≤ w.2.1 - 1 ∧ w.2.1 - (1 : Int) ≤ 9223372036854775807) ∧ (-9223372036854775808) ≤ w.2.1 - 1 ∧ w.2.1 - (1 : Int) ≤ 9223372036854775807) ∧ w.2.1 - 1 = (aheadS w r).1 ∧ w.2.1 - 1 = (aheadS w r).2)) := by
 intros
 kernel_rfl
theorem wp202 (w : Stp) (r : Bool) : wpF Tryz.prog G42 (na ()) Tryz.f202 cAhead (w, r, ()) := by
 refine (vc202 w r).mpr ?_
 intro h
 unfold aheadS
 refine ⟨fun e => ?_, fun e => ?_⟩ <;> (subst e; exact ⟨by omega, rfl, rfl⟩)
theorem ok202 [Sx.Dr] : Ok Tryz.prog 202 cAhead := ok_of_wp mixed g42 (by kernel_rfl) (by kernel_rfl) na fun xx => wp202 xx.1 xx.2.1
abbrev G43 : Gam := (202, cAhead) :: G42
theorem g43 [Sx.Dr] : GamOk Tryz.prog G43 := .cons ok202 g42
def hgt (w : Stp) (k : Int) : Int := (w.2.2.2.2 * k).tdiv 8
def sentS (c : Cab) (w : Stp) (r : Bool) (k : Int) : List Stp :=
 if hgt w k = 0 ∨ (aheadS w r).2 < 0 ∨ (c.1.length : Int) ≤ (aheadS w r).2 then [] else [(w.1 + (c.1.getD (aheadS w r).2.toNat (0, 0)).2, (aheadS w r).1, r, w.2.2.2.1 + 1, hgt w k)]
def wvB (w : Stp) : Prop := (0 ≤ w.1 ∧ w.1 ≤ 1000000) ∧ (0 ≤ w.2.1 ∧ w.2.1 ≤ 6) ∧ (0 ≤ w.2.2.2.1 ∧ w.2.2.2.1 ≤ 6) ∧ -17179869184 ≤ w.2.2.2.2 ∧ w.2.2.2.2 ≤ 17179869184
def cSent : Con := { args := [aC, aW, aB, aI], ress := [(false, .list 170 sStp)], owns := [true], pre := fun (c, w, _, k, _) => [cabS c = 0, wvB w, -16 ≤ k ∧ k ≤ 16], spec := fun (c, w, r, k, _) => (sentS c w r k, ()) }
theorem hgt_bd {w : Stp} {k : Int} (h : wvB w) (hk : -16 ≤ k ∧ k ≤ 16) : (-274877906944 ≤ w.2.2.2.2 * k ∧ w.2.2.2.2 * k ≤ 274877906944) ∧ -34359738368 ≤ hgt w k ∧ hgt w k ≤ 34359738368 := by
 obtain ⟨_, _, _, h1, h2⟩ := h
 have a1 : w.2.2.2.2 * k ≤ 274877906944 := by
  rcases Int.le_total 0 k with h | h
  ·have := Int.mul_le_mul h2 hk.2 h (by omega); omega
  ·have := Int.mul_le_mul_of_nonpos_right h1 h; omega
 have a2 : -274877906944 ≤ w.2.2.2.2 * k := by
  rcases Int.le_total 0 k with h | h
  ·have := Int.mul_le_mul_of_nonneg_right h1 h; omega
  ·have := Int.mul_le_mul_of_nonpos_right h2 h; omega
 refine ⟨⟨a2, a1⟩, ?_⟩
 unfold hgt
 generalize w.2.2.2.2 * k = x at a1 a2
 rcases Int.le_total 0 x with h | h
 ·rw [Int.tdiv_eq_ediv_of_nonneg h]; omega
 ·have e : x.tdiv 8 = - ((-x).tdiv 8) := by rw [Int.neg_tdiv, Int.neg_neg]
  rw [e, Int.tdiv_eq_ediv_of_nonneg (by omega)]; omega
def vc173_0 (c : Cab) (w : Stp) (r : Bool) (k : Int) := (aheadS (w.1, w.2.1, w.2.2.1, w.2.2.2.1, w.2.2.2.2) r)
theorem vc173 : ∀ (c : Cab) (w : Stp) (r : Bool) (k : Int), wpF Tryz.prog G43 (na ()) Tryz.f173 cSent (c, w, r, k, ()) = (cabS c = 0 → wvB w → (-16) ≤ k ∧ k ≤ 16 → ((-1000) ≤ w.2.1 ∧ w.2.1 ≤ 1000) ∧ ((I64 (w.2.2.2.2 * k)) ∧ ((8 : Int) = 0 → False) ∧ (-9223372036854775808) ≤ Int.tdiv (w.2.2.2.2 * k) 8 ∧ Int.tdiv (w.2.2.2.2 * k) (8 : Int) ≤ 9223372036854775807) ∧ ((bif bif Int.tdiv (w.2.2.2.2 * k) (8 : Int) == 0 then true else decide ((vc173_0 c w r k).2 < 0) then true else decide ((↑(List.length c.1) : Int) ≤ (vc173_0 c w r k).2)) = true → [] = sentS c w r k) ∧ ((bif bif Int.tdiv (w.2.2.2.2 * k) (8 : Int) == 0 then true else decide ((vc173_0 c w r k).2 < 0) then true else decide ((↑(List.length c.1) : Int) ≤ (vc173_0 c w r k).2)) = false → ((0 ≤ (vc173_0 c w r k).2 ∧ (vc173_0 c w r k).2 < (↑(List.length c.1) : Int)) ∧ (0 ≤ (vc173_0 c w r k).2 ∧ (vc173_0 c w r k).2 < (↑(List.length c.1) : Int)) ∧ (I64 (w.1 + (List.getD c.1 (Int.toNat (vc173_0 c w r k).2) (0, 0)).2)) ∧ (-9223372036854775808) ≤ w.2.2.2.1 + 1 ∧ w.2.2.2.1 + (1 : Int) ≤ 9223372036854775807) ∧ [(w.1 + (List.getD c.1 (Int.toNat (vc173_0 c w r k).2) (0, 0)).2, (vc173_0 c w r k).1, r, w.2.2.2.1 + 1, Int.tdiv (w.2.2.2.2 * k) 8)] = sentS c w r k)) := by
 intros
 kernel_rfl
theorem wp173 (c : Cab) (w : Stp) (r : Bool) (k : Int) : wpF Tryz.prog G43 (na ()) Tryz.f173 cSent (c, w, r, k, ()) := by
 refine (vc173 c w r k).mpr ?_
 delta vc173_0
 delta I64
 intro h hw hk
 have hv : cabV c := cabS_V h
 obtain ⟨⟨m1, m2⟩, n1, n2⟩ := hgt_bd hw hk
 obtain ⟨q1, q2, q3, _⟩ := hw
 unfold sentS hgt at *
 generalize (w.2.2.2.2 * k).tdiv 8 = H at *
 generalize aheadS w r = A at *
 refine ⟨by omega, ⟨by omega, by omega, by omega⟩, fun h1 => ?_, fun h1 => ?_⟩
 ·have h2 : H = 0 ∨ A.2 < 0 ∨ (c.1.length : Int) ≤ A.2 := by simpa [or_assoc] using h1
  rw [if_pos h2]
 ·have h2 : ¬ (H = 0 ∨ A.2 < 0 ∨ (c.1.length : Int) ≤ A.2) := by simpa [or_assoc, and_assoc] using h1
  rw [if_neg h2]
  have b := hv.2.2.1 _ (getD_mem (d := (0, 0)) (l := c.1) (k := A.2.toNat) (by omega))
  exact ⟨⟨by omega, by omega, by omega, by omega⟩, rfl⟩
theorem ok173 [Sx.Dr] : Ok Tryz.prog 173 cSent := ok_of_wp mixed g43 (by kernel_rfl) (by kernel_rfl) na fun xx => wp173 xx.1 xx.2.1 xx.2.2.1 xx.2.2.2.1
abbrev G44 : Gam := (173, cSent) :: G43
theorem g44 [Sx.Dr] : GamOk Tryz.prog G44 := .cons ok173 g43
def growP (_ : Nat → Option Res) (n : Nat) (args : List SV) : Option Out := match args with
 | [.v false [.val (.slice none 0 0)], .v false [.int .i64 k]] => some ⟨[0 ≤ k ∧ k ≤ 1000000], .one (.sl n), [.own 170 sStp []], []⟩
 | _ => none
def cGrow : Con := { args := [], ress := [], owns := [], pre := fun _ => [False], spec := fun _ => (), prim := some growP }
theorem grow_ok [Sx.Dr] : PrimOk Tryz.prog 203 growP := by
 intro N B w0 al τ σ a w ρ M R n d rs args out C hd hrs hop hpre hfresh
 unfold growP at hop
 split at hop
 ·rename_i k
  cases hop
  have hk : 0 ≤ k ∧ k ≤ 1000000 := hpre
  have hn : ¬ al n := fun h => hfresh n h ⟨Nat.le_refl _, by simp⟩
  obtain ⟨m, rfl⟩ := Int.eq_ofNat_of_zero_le hk.1
  have hm : m ≤ 1000000 := by omega
  rcases Nat.eq_zero_or_pos m with h0 | h0
  ·subst h0
   refine ⟨_, Tryz.grow203_none w, fun e w' hp => ?_⟩
   obtain ⟨rfl, rfl⟩ := hp
   have hne : ∀ id, al id → id ≠ n := fun id h e => hn (e ▸ h)
   have en : newEnv ρ n [Value.slice none 0 0] n = .slice none 0 0 := newEnv_new (i := 0) rfl
   have eo : ∀ id, al id → newEnv ρ n [Value.slice none 0 0] id = ρ id := fun id h => newEnv_old (by have := hne id h; simp; omega)
   refine ⟨_, newEnv ρ n [.slice none 0 0], M, rfl, ?_⟩
   refine C.step hd (fun id h => by have := hne id h; simp; omega) (fun id h => newEnv_old (by simpa using h)) (by show _ = Sx.valOf false [newEnv ρ n _ n]; rw [en]; rfl) (fun id hid => ?_) (Sx.Below.refl _ _) (Nat.le_refl _) (fun _ h => h) (fun b h => C.old b (.inl h)) (fun _ _ => rfl) ?_ ?_ ?_ ?_
   ·have : id = n := by simpa [SV.ids, idsL, SC.ids] using hid
    exact .inr ⟨by omega, by simp; omega⟩
   ·intro r x _ _ hx ho b hb
    exact ⟨rfl, (C.notM hx ho hb).1⟩
   ·rintro r x hx (h | h)
    ·have er : r = n := by simp at h; omega
     subst er
     rw [setS_new h] at hx
     simp at hx
     subst hx
     refine ⟨⟨[], rfl, ⟨by simp, .inl ⟨en, rfl⟩⟩, fun g hg => by rw [en] at hg; cases hg⟩, .inr h, fun id hid => by simp [Res.ids] at hid⟩
    ·exact absurd rfl h
   ·intro id h
    have er : id = n := by simp at h; omega
    subst er
    rw [en]; rfl
   ·rintro r r' x1 x2 hne' h1 h2 o1 o2 (h | h) b hb1 hb2
    ·have er : r = n := by simp at h; omega
     subst er
     rw [en] at hb1; cases hb1
    ·exact absurd rfl h
  ·refine ⟨_, Tryz.grow203 m w h0 hm, fun e w' hp => ?_⟩
   obtain ⟨cap, cur, rfl, rfl, hcur, hcap⟩ := hp
   have C0 : Corr Tryz.prog N B w0 al τ σ a w.drew ρ M R := C.world (w' := w.drew) rfl ⟨rfl, rfl, rfl, Nat.le_refl _, fun _ _ => rfl, fun _ => Nat.le_succ _⟩
   obtain ⟨ρ', hC⟩ := C0.allocRes (n := n) (d := d) (x := .own 170 sStp []) (v := .sl n) (u := .slice (some ⟨w.heap.size, 0, none⟩) 0 cap) hd hn (.cells cur 170) rfl rfl (fun ρ' h => h) (fun id h => by simpa [SC.ids] using h) (fun id h => by simp [Res.ids] at h) (fun ρ' h5 _ => by
    refine ⟨[], rfl, ⟨by simp, .inr ⟨w.heap.size, cap, cur, h5, C.base, heap_alloc_new w.drew _, Nat.zero_le _, hcap, hcur, by simp⟩⟩, fun g hg => ?_⟩
    rw [h5] at hg; cases hg
    exact ⟨fun h => Nat.lt_irrefl _ (C.old w.heap.size (.inl h)), fun h => Nat.lt_irrefl _ (C.old w.heap.size (.inr h))⟩)
   exact ⟨_, ρ', M, rfl, hC⟩
 ·cases hop
theorem ok203 [Sx.Dr] : Ok Tryz.prog 203 cGrow := ⟨⟨Tryz.f203, by kernel_rfl, by kernel_rfl, by kernel_rfl⟩, fun z hz => (by cases hz), fun F hF => (by cases hF; exact grow_ok), fun _ x M R w vs _ _ hpre _ => False.elim hpre⟩
abbrev G45 : Gam := (203, cGrow) :: G44
theorem g45 [Sx.Dr] : GamOk Tryz.prog G45 := .cons ok203 g44
theorem drop_cons {α : Type} {l : List α} {k : Nat} {d : α} (h : k < l.length) : l.drop k = l.getD k d :: l.drop (k + 1) := by
 rw [List.drop_eq_getElem_cons h]
 simp [List.getD_eq_getElem?_getD, h]
def smallL (ll : List (List Stp)) : Prop := ll.length ≤ 100 ∧ ∀ l ∈ ll, l.length ≤ 100
def cConcat : Con := { args := [.val false (.list 171 (.list 170 sStp))], ress := [(false, .list 170 sStp)], owns := [true], pre := fun (ll, _) => [smallL ll], spec := fun (ll, _) => (ll.flatten, ()) }
abbrev annConcat (ll : List (List Stp)) : Nat → Option Ann := fun id =>
 if id = 0 then some { X := Nat, σ := fun k => ⟨5, [(0, .one (.sl 0)), (3, .one (.int .i64 (ll.take k).flatten.length)), (9, .one (.sl 0)), (10, .one (.int .i64 ll.length)), (11, .one (.int .i64 k))], [(0, .imm 171 (.list 170 sStp) ll)]⟩, inv := fun k => k ≤ ll.length, mu := fun k => ll.length - k }
 else if id = 2 then some { X := Nat, σ := fun k => ⟨5, [(0, .one (.sl 0)), (6, .one (.sl 4)), (25, .one (.sl 0)), (26, .one (.int .i64 ll.length)), (27, .one (.int .i64 k))], [(0, .imm 171 (.list 170 sStp) ll), (4, .own 170 sStp (ll.take k).flatten)]⟩, inv := fun k => k ≤ ll.length, mu := fun k => ll.length - k }
 else none
theorem flat_take {ll : List (List Stp)} {k : Nat} (h : k < ll.length) : (ll.take (k + 1)).flatten = (ll.take k).flatten ++ ll.getD k [] := by
 rw [← take_snoc (d := []) h]; simp
theorem flat_len {ll : List (List Stp)} (h : smallL ll) {k : Nat} : (ll.take k).flatten.length ≤ 100 * ll.length := by
 have key : ∀ l : List (List Stp), (∀ x ∈ l, x.length ≤ 100) → l.flatten.length ≤ 100 * l.length := by
  intro l
  induction l with
  | nil => simp
  | cons x r ih =>
   intro hx
   have h1 := hx x (by simp)
   have h2 := ih fun y hy => hx y (by simp [hy])
   simp only [List.flatten_cons, List.length_append, List.length_cons]; omega
 have h1 := key (ll.take k) fun x hx => h.2 x (List.mem_of_mem_take hx)
 have : (ll.take k).length ≤ ll.length := by simp; omega
 omega
def vc174_0 (ll : List (List Stp)) (x : Nat) := (↑(List.length (List.flatten (List.take x ll))) : Int)
def vc174_1 (ll : List (List Stp)) (x : Nat) (y : Nat) := ((vc174_0 ll x) + (↑(List.length (List.getD ll x [])) : Int) = (↑(List.length (List.flatten (List.take y ll))) : Int) ∧ (↑(List.length ll) : Int) = (↑(List.length ll) : Int) ∧ (↑x : Int) + (1 : Int) = (↑y : Int) ∧ ll = ll)
def vc174_2 (ll : List (List Stp)) (x : Nat) := ((-9223372036854775808 : Int) ≤ (↑x : Int) + (1 : Int) ∧ (↑x : Int) + (1 : Int) ≤ (9223372036854775807 : Int))
theorem vc174 : ∀ (ll : List (List Stp)), wpF Tryz.prog G45 (annConcat ll) Tryz.f174 cConcat (ll, ()) = (smallL ll → ∃ (x : Nat), (0 = (vc174_0 ll x) ∧ (↑(List.length ll) : Int) = (↑(List.length ll) : Int) ∧ 0 = (↑x : Int) ∧ ll = ll) ∧ x ≤ List.length ll ∧ ∀ (x : Nat), x ≤ List.length ll → (decide ((↑x : Int) < (↑(List.length ll) : Int)) = true → ((0 ≤ (↑x : Int) ∧ (↑x : Int) < (↑(List.length ll) : Int)) ∧ 0 ≤ (↑x : Int) ∧ (↑x : Int) < (↑(List.length ll) : Int)) ∧ (I64 ((vc174_0 ll x) + (↑(List.length (List.getD ll x [])) : Int))) ∧ (decide ((vc174_0 ll x) + (↑(List.length (List.getD ll x [])) : Int) < 0) = true → False ∧ (vc174_2 ll x) ∧ ∃ (y : Nat), (vc174_1 ll x y) ∧ y ≤ List.length ll ∧ List.length ll - y < List.length ll - x) ∧ (decide ((vc174_0 ll x) + (↑(List.length (List.getD ll x [])) : Int) < 0) = false → (vc174_2 ll x) ∧ ∃ (y : Nat), (vc174_1 ll x y) ∧ y ≤ List.length ll ∧ List.length ll - y < List.length ll - x)) ∧ (decide ((↑x : Int) < (↑(List.length ll) : Int)) = false → (0 ≤ (vc174_0 ll x) ∧ (vc174_0 ll x) ≤ 1000000) ∧ ∃ (x : Nat), ((↑(List.length ll) : Int) = (↑(List.length ll) : Int) ∧ 0 = (↑x : Int) ∧ ll = ll ∧ [] = List.flatten (List.take x ll)) ∧ x ≤ List.length ll ∧ ∀ (x : Nat), x ≤ List.length ll → (decide ((↑x : Int) < (↑(List.length ll) : Int)) = true → ((0 ≤ (↑x : Int) ∧ (↑x : Int) < (↑(List.length ll) : Int)) ∧ 0 ≤ (↑x : Int) ∧ (↑x : Int) < (↑(List.length ll) : Int)) ∧ (List.length (List.flatten (List.take x ll)) + List.length (List.getD ll x [])) * 40 ≤ 140737488355328 ∧ (vc174_2 ll x) ∧ ∃ (y : Nat), ((↑(List.length ll) : Int) = (↑(List.length ll) : Int) ∧ (↑x : Int) + 1 = (↑y : Int) ∧ ll = ll ∧ List.flatten (List.take x ll) ++ List.getD ll x [] = List.flatten (List.take y ll)) ∧ y ≤ List.length ll ∧ List.length ll - y < List.length ll - x) ∧ (decide ((↑x : Int) < (↑(List.length ll) : Int)) = false → List.flatten (List.take x ll) = List.flatten ll))) := by
 intros
 kernel_rfl
theorem wp174 (ll : List (List Stp)) : wpF Tryz.prog G45 (annConcat ll) Tryz.f174 cConcat (ll, ()) := by
 refine (vc174 ll).mpr ?_
 delta vc174_0 vc174_1 vc174_2
 delta I64
 intro h
 have hl := h.1
 have gl : ∀ k, k < ll.length → (ll.getD k []).length ≤ 100 := fun k hk => h.2 _ (getD_mem hk)
 refine ⟨(0 : Nat), ⟨by simp, rfl, rfl, rfl⟩, Nat.zero_le _, fun (k : Nat) hk => ⟨fun h1 => ?_, fun h1 => ?_⟩⟩
 ·have hlt : k < ll.length := by simpa using h1
  have h2 := flat_len h (k := k)
  have h3 := gl k hlt
  refine ⟨by omega, by omega, fun h4 => ?_, fun h4 => ⟨by omega, (k + 1 : Nat), ⟨?_, rfl, by simp, rfl⟩, by omega, by omega⟩⟩
  ·have h4 := of_decide_eq_true h4
   omega
  ·rw [flat_take hlt, List.length_append]; simp
 ·have h2 := flat_len h (k := k)
  refine ⟨by omega, (0 : Nat), ⟨rfl, rfl, rfl, by simp⟩, Nat.zero_le _, fun (j : Nat) hj => ⟨fun h1 => ?_, fun h1 => ?_⟩⟩
  ·have hlt : j < ll.length := by simpa using h1
   have h2 := flat_len h (k := j)
   have h3 := gl j hlt
   exact ⟨by omega, by omega, by omega, (j + 1 : Nat), ⟨rfl, by simp, rfl, (flat_take hlt).symm⟩, by omega, by omega⟩
  ·have hlt : ¬ j < ll.length := by simpa using h1
   rw [List.take_of_length_le (by omega)]
theorem ok174 [Sx.Dr] : Ok Tryz.prog 174 cConcat := ok_of_wp mixed g45 (by kernel_rfl) (by kernel_rfl) (fun xx => annConcat xx.1) fun xx => wp174 xx.1
abbrev G46 : Gam := (174, cConcat) :: G45
theorem g46 [Sx.Dr] : GamOk Tryz.prog G46 := .cons ok174 g45
def facW (c : Cab) (w : Stp) : Int := bif w.2.2.1 then c.2.1.getD (w.2.1 - 1).toNat 0 else 0 - c.2.1.getD (w.2.1 - 1).toNat 0
def childS (c : Cab) (w : Stp) : List Stp :=
 if w.2.2.2.1 = 6 then [] else if w.2.1 = 0 then sentS c w true c.2.2.1 else if w.2.1 = c.1.length then sentS c w false c.2.2.2 else
 sentS c w w.2.2.1 (8 + facW c w) ++ sentS c w (!w.2.2.1) (facW c w)
def wvC (c : Cab) (w : Stp) : Prop := wvB w ∧ w.2.1 ≤ c.1.length
def cChild : Con := { args := [aC, aW], ress := [(false, .list 170 sStp)], owns := [true], pre := fun (c, w, _) => [cabS c = 0, wvC c w], spec := fun (c, w, _) => (childS c w, ()) }
theorem sent_len (c : Cab) (w : Stp) (r : Bool) (k : Int) : (sentS c w r k).length ≤ 1 := by
 unfold sentS; split <;> simp
theorem sent_small (c : Cab) (w : Stp) (r r' : Bool) (k k' : Int) : smallL [sentS c w r k, sentS c w r' k'] := by
 refine ⟨by simp, fun l hl => ?_⟩
 have h1 := sent_len c w r k
 have h2 := sent_len c w r' k'
 simp only [List.mem_cons, List.not_mem_nil, or_false] at hl
 rcases hl with rfl | rfl <;> omega
theorem joint_ok {c : Cab} {w : Stp} (hv : cabV c) (hw : wvC c w) (h0 : ¬ w.2.1 = 0) (h1 : ¬ w.2.1 = c.1.length) : (0 ≤ w.2.1 - 1 ∧ w.2.1 - 1 < c.2.1.length) ∧ -8 ≤ c.2.1.getD (w.2.1 - 1).toNat 0 ∧ c.2.1.getD (w.2.1 - 1).toNat 0 ≤ 8 := by
 obtain ⟨⟨_, hb, _⟩, hn⟩ := hw
 obtain ⟨_, _, _, v4, v5, _⟩ := hv
 have b : 0 ≤ w.2.1 - 1 ∧ w.2.1 - 1 < c.2.1.length := by omega
 exact ⟨b, v5 _ (getD_mem (by omega))⟩
def vc143_0 (c : Cab) (w : Stp) := (w.1, w.2.1, w.2.2.1, w.2.2.2.1, w.2.2.2.2)
def vc143_1 (c : Cab) (w : Stp) := ((0 : Int) - List.getD c.2.1 (Int.toNat (w.2.1 - (1 : Int))) (0 : Int))
def vc143_2 (c : Cab) (w : Stp) := (c.1, c.2.1, c.2.2.1, c.2.2.2)
theorem vc143 : ∀ (c : Cab) (w : Stp), wpF Tryz.prog G46 (na ()) Tryz.f143 cChild (c, w, ()) = (cabS c = 0 → wvC c w → ((w.2.2.2.1 == 6) = true → [] = childS c w) ∧ ((w.2.2.2.1 == 6) = false → ((w.2.1 == 0) = true → (cabS (vc143_2 c w) = 0 ∧ wvB (vc143_0 c w) ∧ (-16) ≤ c.2.2.1 ∧ c.2.2.1 ≤ 16) ∧ sentS (vc143_2 c w) (vc143_0 c w) true c.2.2.1 = childS c w) ∧ ((w.2.1 == 0) = false → ((w.2.1 == (↑(List.length c.1) : Int)) = true → (cabS (vc143_2 c w) = 0 ∧ wvB (vc143_0 c w) ∧ (-16) ≤ c.2.2.2 ∧ c.2.2.2 ≤ 16) ∧ sentS (vc143_2 c w) (vc143_0 c w) false c.2.2.2 = childS c w) ∧ ((w.2.1 == (↑(List.length c.1) : Int)) = false → (((-9223372036854775808) ≤ w.2.1 - 1 ∧ w.2.1 - (1 : Int) ≤ 9223372036854775807) ∧ (0 ≤ w.2.1 - 1 ∧ w.2.1 - 1 < (↑(List.length c.2.1) : Int)) ∧ 0 ≤ w.2.1 - 1 ∧ w.2.1 - 1 < (↑(List.length c.2.1) : Int)) ∧ ((!w.2.2.1) = true → ((-9223372036854775808 : Int) ≤ 0 - List.getD c.2.1 (Int.toNat (w.2.1 - 1)) 0 ∧ 0 - List.getD c.2.1 (Int.toNat (w.2.1 - 1)) (0 : Int) ≤ 9223372036854775807) ∧ (((-9223372036854775808 : Int) ≤ 8 + (vc143_1 c w) ∧ 8 + (vc143_1 c w) ≤ 9223372036854775807) ∧ cabS (vc143_2 c w) = 0 ∧ wvB (vc143_0 c w) ∧ ((-16 : Int) ≤ 8 + (vc143_1 c w) ∧ 8 + (vc143_1 c w) ≤ 16) ∧ cabS (vc143_2 c w) = 0 ∧ wvB (vc143_0 c w) ∧ ((-16 : Int) ≤ 0 - List.getD c.2.1 (Int.toNat (w.2.1 - 1)) 0 ∧ 0 - List.getD c.2.1 (Int.toNat (w.2.1 - 1)) (0 : Int) ≤ 16) ∧ smallL [sentS (vc143_2 c w) (vc143_0 c w) w.2.2.1 (8 + (vc143_1 c w)), sentS (vc143_2 c w) (vc143_0 c w) (!w.2.2.1) (vc143_1 c w)]) ∧ sentS (vc143_2 c w) (vc143_0 c w) w.2.2.1 (8 + (vc143_1 c w)) ++ List.flatten [sentS (vc143_2 c w) (vc143_0 c w) (!w.2.2.1) (vc143_1 c w)] = childS c w) ∧ ((!w.2.2.1) = false → (((-9223372036854775808 : Int) ≤ 8 + List.getD c.2.1 (Int.toNat (w.2.1 - 1)) 0 ∧ 8 + List.getD c.2.1 (Int.toNat (w.2.1 - 1)) (0 : Int) ≤ 9223372036854775807) ∧ cabS (vc143_2 c w) = 0 ∧ wvB (vc143_0 c w) ∧ ((-16 : Int) ≤ 8 + List.getD c.2.1 (Int.toNat (w.2.1 - 1)) 0 ∧ 8 + List.getD c.2.1 (Int.toNat (w.2.1 - 1)) (0 : Int) ≤ 16) ∧ cabS (vc143_2 c w) = 0 ∧ wvB (vc143_0 c w) ∧ ((-16) ≤ List.getD c.2.1 (Int.toNat (w.2.1 - 1)) 0 ∧ List.getD c.2.1 (Int.toNat (w.2.1 - 1)) (0 : Int) ≤ 16) ∧ smallL [sentS (vc143_2 c w) (vc143_0 c w) w.2.2.1 (8 + List.getD c.2.1 (Int.toNat (w.2.1 - 1)) 0), sentS (vc143_2 c w) (vc143_0 c w) (!w.2.2.1) (List.getD c.2.1 (Int.toNat (w.2.1 - 1)) 0)]) ∧ sentS (vc143_2 c w) (vc143_0 c w) w.2.2.1 (8 + List.getD c.2.1 (Int.toNat (w.2.1 - 1)) 0) ++ List.flatten [sentS (vc143_2 c w) (vc143_0 c w) (!w.2.2.1) (List.getD c.2.1 (Int.toNat (w.2.1 - 1)) 0)] = childS c w))))) := by
 intros
 kernel_rfl
theorem wp143 (c : Cab) (w : Stp) : wpF Tryz.prog G46 (na ()) Tryz.f143 cChild (c, w, ()) := by
 refine (vc143 c w).mpr ?_
 delta vc143_0 vc143_1 vc143_2
 intro h hw
 have hv : cabV c := cabS_V h
 have hb := hw.1
 obtain ⟨_, _, _, v4, v5, v6, v7⟩ := id hv
 unfold childS
 refine ⟨fun e => ?_, fun e => ⟨fun e1 => ?_, fun e1 => ⟨fun e2 => ?_, fun e2 => ?_⟩⟩⟩
 ·rw [if_pos (by simpa using e)]
 ·rw [if_neg (by simpa using e), if_pos (by simpa using e1)]
  exact ⟨⟨h, hb, by omega, by omega⟩, rfl⟩
 ·rw [if_neg (by simpa using e), if_neg (by simpa using e1), if_pos (by simpa using e2)]
  exact ⟨⟨h, hb, by omega, by omega⟩, rfl⟩
 ·rw [if_neg (by simpa using e), if_neg (by simpa using e1), if_neg (by simpa using e2)]
  obtain ⟨j1, j2⟩ := joint_ok hv hw (by simpa using e1) (by simpa using e2)
  refine ⟨⟨by omega, j1, j1⟩, fun e3 => ?_, fun e3 => ?_⟩
  ·have e3 : w.2.2.1 = false := by simpa using e3
   have ef : facW c w = 0 - c.2.1.getD (w.2.1 - 1).toNat 0 := by unfold facW; rw [e3]; rfl
   rw [ef]
   refine ⟨by omega, ⟨by omega, h, hb, by omega, h, hb, by omega, sent_small _ _ _ _ _ _⟩, ?_⟩
   simp only [List.flatten_cons, List.flatten_nil, List.append_nil]
  ·have e3 : w.2.2.1 = true := by simpa using e3
   have ef : facW c w = c.2.1.getD (w.2.1 - 1).toNat 0 := by unfold facW; rw [e3]; rfl
   rw [ef]
   refine ⟨⟨by omega, h, hb, by omega, h, hb, by omega, sent_small _ _ _ _ _ _⟩, ?_⟩
   simp only [List.flatten_cons, List.flatten_nil, List.append_nil]
theorem ok143 [Sx.Dr] : Ok Tryz.prog 143 cChild := ok_of_wp mixed g46 (by kernel_rfl) (by kernel_rfl) na fun xx => wp143 xx.1 xx.2.1
abbrev G47 : Gam := (143, cChild) :: G46
theorem g47 [Sx.Dr] : GamOk Tryz.prog G47 := .cons ok143 g46
abbrev G48 : Gam := G47
theorem g48 [Sx.Dr] : GamOk Tryz.prog G48 := g47
def beforeS (a b : Stp) : Bool := if a.1 ≠ b.1 then decide (a.1 < b.1) else if a.2.1 ≠ b.2.1 then decide (a.2.1 < b.2.1) else if a.2.2.1 ≠ b.2.2.1 then b.2.2.1 else if a.2.2.2.1 ≠ b.2.2.2.1 then decide (a.2.2.2.1 < b.2.2.2.1) else decide (a.2.2.2.2 < b.2.2.2.2)
abbrev G49 : Gam := G48
theorem g49 [Sx.Dr] : GamOk Tryz.prog G49 := g48
def insS (x : Stp) : List Stp → List Stp
 | [] => [x]
 | y :: r => if beforeS x y then x :: y :: r else y :: insS x r
abbrev G50 : Gam := G49
theorem g50 [Sx.Dr] : GamOk Tryz.prog G50 := g49
abbrev G51 : Gam := G50
theorem g51 [Sx.Dr] : GamOk Tryz.prog G51 := g50
def wt (w : Stp) : Nat := 3 ^ (7 - w.2.2.2.1.toNat)
def wtL : List Stp → Nat
 | [] => 0
 | w :: r => wt w + wtL r
theorem wt_pos (w : Stp) : 0 < wt w := Nat.pow_pos (by omega)
theorem wtL_append (l r : List Stp) : wtL (l ++ r) = wtL l + wtL r := by
 induction l with
 | nil => simp [wtL]
 | cons x l ih => simp only [List.cons_append, wtL, ih]; omega
theorem sent_hop {c : Cab} {w x : Stp} {r : Bool} {k : Int} (h : x ∈ sentS c w r k) : x.2.2.2.1 = w.2.2.2.1 + 1 := by
 unfold sentS at h
 split at h
 ·simp at h
 ·simp only [List.mem_singleton] at h; rw [h]
theorem sent_wt {c : Cab} {w : Stp} {r : Bool} {k : Int} (h0 : 0 ≤ w.2.2.2.1) : wtL (sentS c w r k) ≤ 3 ^ (6 - w.2.2.2.1.toNat) := by
 unfold sentS
 split
 ·exact Nat.zero_le _
 ·simp only [wtL, wt, Nat.add_zero]
  rw [show (w.2.2.2.1 + 1).toNat = w.2.2.2.1.toNat + 1 by omega, show 7 - (w.2.2.2.1.toNat + 1) = 6 - w.2.2.2.1.toNat by omega]
  exact Nat.le_refl _
theorem child_wt {c : Cab} {w : Stp} (h0 : 0 ≤ w.2.2.2.1 ∧ w.2.2.2.1 ≤ 6) : wtL (childS c w) < wt w := by
 unfold childS
 split
 ·exact wt_pos w
 ·rename_i h6
  have e : wt w = 3 ^ (6 - w.2.2.2.1.toNat) * 3 := by
   unfold wt
   rw [← Nat.pow_succ, show 7 - w.2.2.2.1.toNat = (6 - w.2.2.2.1.toNat).succ by omega]
  have hp : 0 < 3 ^ (6 - w.2.2.2.1.toNat) := Nat.pow_pos (by omega)
  repeat' split
  ·have := sent_wt (c := c) (r := true) (k := c.2.2.1) h0.1; omega
  ·have := sent_wt (c := c) (r := false) (k := c.2.2.2) h0.1; omega
  ·rw [wtL_append]
   have h1 := sent_wt (c := c) (r := w.2.2.1) (k := 8 + facW c w) h0.1
   have h2 := sent_wt (c := c) (r := !w.2.2.1) (k := facW c w) h0.1
   omega
def bfs (c : Cab) (last : Int) : Nat → List Stp → List Stp
 | 0, _ => []
 | _ + 1, [] => []
 | n + 1, w :: r => if last < w.1 then bfs c last n r else w :: bfs c last n (r ++ childS c w)
def hbN (h : Nat) : Int := 268435456 * 2 ^ h
def wvH (c : Cab) (w : Stp) : Prop := (0 ≤ w.2.2.2.1 ∧ w.2.2.2.1 ≤ 6) ∧ (0 ≤ w.2.1 ∧ w.2.1 ≤ c.1.length) ∧ (0 ≤ w.1 ∧ w.1 ≤ 100064 + 64 * w.2.2.2.1) ∧ -hbN w.2.2.2.1.toNat ≤ w.2.2.2.2 ∧ w.2.2.2.2 ≤ hbN w.2.2.2.1.toNat
theorem hbN_le : ∀ {h : Nat}, h ≤ 6 → hbN h ≤ 17179869184 := by
 intro h hh
 have : ∀ k, k < 7 → hbN k ≤ 17179869184 := by decide
 exact this h (by omega)
theorem wvH_C {c : Cab} {w : Stp} (hv : cabV c) (h : wvH c w) : wvC c w := by
 obtain ⟨h1, h2, h3, h4, h5⟩ := h
 have := hbN_le (h := w.2.2.2.1.toNat) (by omega)
 have := hv.2.1
 exact ⟨⟨by omega, by omega, h1, by omega, by omega⟩, h2.2⟩
theorem hgt_two {w : Stp} {k B : Int} (hk : -16 ≤ k ∧ k ≤ 16) (h : -B ≤ w.2.2.2.2 ∧ w.2.2.2.2 ≤ B) : -(2 * B) ≤ hgt w k ∧ hgt w k ≤ 2 * B := by
 have hB : 0 ≤ B := by omega
 have a1 : w.2.2.2.2 * k ≤ 16 * B := by
  rcases Int.le_total 0 k with hk0 | hk0
  ·have := Int.mul_le_mul h.2 hk.2 hk0 hB; omega
  ·have q := Int.mul_le_mul_of_nonpos_right h.1 hk0
   have q2 : B * -k ≤ B * 16 := Int.mul_le_mul_of_nonneg_left (by omega) hB
   rw [Int.neg_mul] at q; rw [Int.mul_neg] at q2; omega
 have a2 : -(16 * B) ≤ w.2.2.2.2 * k := by
  rcases Int.le_total 0 k with hk0 | hk0
  ·have q := Int.mul_le_mul_of_nonneg_right h.1 hk0
   have q2 : B * k ≤ B * 16 := Int.mul_le_mul_of_nonneg_left hk.2 hB
   rw [Int.neg_mul] at q; omega
  ·have q := Int.mul_le_mul_of_nonpos_right h.2 hk0
   have q2 : B * -k ≤ B * 16 := Int.mul_le_mul_of_nonneg_left (by omega) hB
   rw [Int.mul_neg] at q2; omega
 unfold hgt
 generalize w.2.2.2.2 * k = x at a1 a2
 rcases Int.le_total 0 x with hx | hx
 ·rw [Int.tdiv_eq_ediv_of_nonneg hx]; omega
 ·have e : x.tdiv 8 = - ((-x).tdiv 8) := by rw [Int.neg_tdiv, Int.neg_neg]
  rw [e, Int.tdiv_eq_ediv_of_nonneg (by omega)]; omega
theorem sent_H {c : Cab} {w x : Stp} {r : Bool} {k : Int} (hv : cabV c) (hw : wvH c w) (h6 : ¬ w.2.2.2.1 = 6) (hk : -16 ≤ k ∧ k ≤ 16) (h : x ∈ sentS c w r k) : wvH c x := by
 unfold sentS at h
 split at h
 ·simp at h
 ·rename_i hn
  simp only [List.mem_singleton] at h
  obtain ⟨h1, h2, h3, h4⟩ := hw
  have b := hv.2.2.1 _ (getD_mem (d := (0, 0)) (l := c.1) (k := (aheadS w r).2.toNat) (by omega))
  have g := hgt_two hk h4
  have e : hbN (w.2.2.2.1 + 1).toNat = 2 * hbN w.2.2.2.1.toNat := by
   rw [show (w.2.2.2.1 + 1).toNat = w.2.2.2.1.toNat + 1 by omega]
   unfold hbN; rw [Int.pow_succ]; omega
  have hb : 0 ≤ (aheadS w r).1 ∧ (aheadS w r).1 ≤ c.1.length := by
   unfold aheadS at hn ⊢
   cases r
   ·simp only [cond_false] at hn ⊢; omega
   ·simp only [cond_true] at hn ⊢; omega
  rw [h]
  unfold wvH
  dsimp only
  refine ⟨by omega, hb, by omega, ?_⟩
  rw [e]; exact g
theorem child_H {c : Cab} {w x : Stp} (hv : cabV c) (hw : wvH c w) (h : x ∈ childS c w) : wvH c x := by
 obtain ⟨_, _, _, _, _, v6, v7⟩ := id hv
 unfold childS at h
 split at h
 ·simp at h
 ·rename_i h6
  split at h
  ·exact sent_H hv hw h6 (by omega) h
  ·rename_i h0
   split at h
   ·exact sent_H hv hw h6 (by omega) h
   ·rename_i h1
    have j := joint_ok hv (wvH_C hv hw) h0 h1
    have fb : -8 ≤ facW c w ∧ facW c w ≤ 8 := by
     unfold facW
     cases w.2.2.1 <;> simp only [cond_true, cond_false] <;> omega
    rcases List.mem_append.1 h with h | h
    ·exact sent_H hv hw h6 (by omega) h
    ·exact sent_H hv hw h6 (by omega) h
theorem bfs_fuel {c : Cab} {last : Int} (hv : cabV c) : ∀ {n m : Nat} {l : List Stp}, (∀ w ∈ l, wvH c w) → wtL l ≤ n → wtL l ≤ m → bfs c last n l = bfs c last m l
 | 0, 0, _, _, _, _ => rfl
 | 0, m + 1, [], _, _, _ => rfl
 | 0, _ + 1, w :: r, _, h, _ => by have := wt_pos w; simp only [wtL] at h; omega
 | n + 1, 0, [], _, _, _ => rfl
 | _ + 1, 0, w :: r, _, _, h => by have := wt_pos w; simp only [wtL] at h; omega
 | n + 1, m + 1, [], _, _, _ => rfl
 | n + 1, m + 1, w :: r, hl, h1, h2 => by
  have hp := wt_pos w
  have hw := hl w (by simp)
  have hc := child_wt (c := c) hw.1
  simp only [wtL] at h1 h2
  simp only [bfs]
  split
  ·exact bfs_fuel hv (fun x hx => hl x (by simp [hx])) (by omega) (by omega)
  ·refine congrArg _ (bfs_fuel hv (fun x hx => ?_) (by rw [wtL_append]; omega) (by rw [wtL_append]; omega))
   rcases List.mem_append.1 hx with hx | hx
   ·exact hl x (by simp [hx])
   ·exact child_H hv hw hx
def runS (c : Cab) (last : Int) (l : List Stp) : List Stp := bfs c last (wtL l) l
theorem runS_cons {c : Cab} {last : Int} {w : Stp} {r : List Stp} (hv : cabV c) (hl : ∀ x ∈ w :: r, wvH c x) : runS c last (w :: r) = if last < w.1 then runS c last r else w :: runS c last (r ++ childS c w) := by
 have hp := wt_pos w
 have hw := hl w (by simp)
 have hc := child_wt (c := c) hw.1
 have hr : ∀ x ∈ r, wvH c x := fun x hx => hl x (by simp [hx])
 have hrc : ∀ x ∈ r ++ childS c w, wvH c x := fun x hx => by
  rcases List.mem_append.1 hx with hx | hx
  ·exact hr x hx
  ·exact child_H hv hw hx
 have e : runS c last (w :: r) = bfs c last (wt w + wtL r - 1 + 1) (w :: r) := by
  unfold runS
  rw [show wt w + wtL r - 1 + 1 = wtL (w :: r) by simp only [wtL]; omega]
 rw [e]
 simp only [bfs]
 unfold runS
 split
 ·exact bfs_fuel hv hr (by omega) (Nat.le_refl _)
 ·exact congrArg _ (bfs_fuel hv hrc (by rw [wtL_append]; omega) (Nat.le_refl _))
theorem bfs_len {c : Cab} {last : Int} (hv : cabV c) : ∀ {n : Nat} {l : List Stp}, (∀ w ∈ l, wvH c w) → wtL l ≤ n → (bfs c last n l).length ≤ wtL l
 | 0, _, _, _ => by simp [bfs]
 | n + 1, [], _, _ => by simp [bfs]
 | n + 1, w :: r, hl, h1 => by
  have hp := wt_pos w
  have hw := hl w (by simp)
  have hc := child_wt (c := c) hw.1
  simp only [wtL] at h1 ⊢
  simp only [bfs]
  split
  ·have := bfs_len (last := last) hv (l := r) (n := n) (fun x hx => hl x (by simp [hx])) (by omega); omega
  ·have := bfs_len (last := last) hv (l := r ++ childS c w) (n := n) (fun x hx => by
    rcases List.mem_append.1 hx with hx | hx
    ·exact hl x (by simp [hx])
    ·exact child_H hv hw hx) (by rw [wtL_append]; omega)
   rw [wtL_append] at this
   simp only [List.length_cons]; omega
theorem bfs_H {c : Cab} {last : Int} (hv : cabV c) : ∀ {n : Nat} {l : List Stp}, (∀ w ∈ l, wvH c w) → ∀ w ∈ bfs c last n l, wvH c w ∧ w.1 ≤ last
 | 0, _, _, w, h => by simp [bfs] at h
 | n + 1, [], _, w, h => by simp [bfs] at h
 | n + 1, w :: r, hl, x, h => by
  simp only [bfs] at h
  split at h
  ·exact bfs_H hv (fun x hx => hl x (by simp [hx])) x h
  ·rename_i hlt
   rcases List.mem_cons.1 h with rfl | h
   ·exact ⟨hl _ (by simp), by omega⟩
   ·refine bfs_H hv (fun x hx => ?_) x h
    rcases List.mem_append.1 hx with hx | hx
    ·exact hl x (by simp [hx])
    ·exact child_H hv (hl w (by simp)) hx
def initS (c : Cab) (f : Flt) : List Stp := [(f.2.2.1 + f.2.1, f.1, false, 0, f.2.2.2 * 262144), (f.2.2.1 + ((c.1.getD f.1.toNat (0, 0)).2 - f.2.1), f.1 + 1, true, 0, f.2.2.2 * 262144)]
theorem initS_H {c : Cab} {f : Flt} (h : fltV c f) : ∀ w ∈ initS c f, wvH c w := by
 obtain ⟨hv, h1, h2, h3, h4, h5⟩ := h
 have b := hv.2.2.1 _ (getD_mem (d := (0, 0)) (l := c.1) (k := f.1.toNat) (by omega))
 have e : hbN (0 : Int).toNat = 268435456 := rfl
 intro w hw
 simp only [initS, List.mem_cons, List.not_mem_nil, or_false] at hw
 rcases hw with rfl | rfl
 ·unfold wvH
  dsimp only
  refine ⟨⟨by omega, by omega⟩, ⟨by omega, by omega⟩, ⟨by omega, by omega⟩, ?_⟩
  show -hbN (0 : Int).toNat ≤ f.2.2.2 * 262144 ∧ f.2.2.2 * 262144 ≤ hbN (0 : Int).toNat
  rw [e]; omega
 ·unfold wvH
  dsimp only
  refine ⟨⟨by omega, by omega⟩, ⟨by omega, by omega⟩, ⟨by omega, by omega⟩, ?_⟩
  show -hbN (0 : Int).toNat ≤ f.2.2.2 * 262144 ∧ f.2.2.2 * 262144 ≤ hbN (0 : Int).toNat
  rw [e]; omega
theorem initS_wt (c : Cab) (f : Flt) : wtL (initS c f) = 4374 := rfl
def wavesS (c : Cab) (f : Flt) (win : Int) : List Stp := runS c (f.2.2.1 + win) (initS c f)
def insAll (o : List Stp) : List Stp → List Stp
 | [] => o
 | x :: r => insAll (insS x o) r
def runR (c : Cab) (f : Flt) (win : Int) : List Stp := insAll [] (wavesS c f win)
theorem len_wt : ∀ l : List Stp, l.length ≤ wtL l
 | [] => Nat.le_refl _
 | x :: r => by
  have h1 := wt_pos x
  have h2 := len_wt r
  simp only [wtL, List.length_cons]; omega
theorem child_len (c : Cab) (w : Stp) : (childS c w).length ≤ 2 := by
 unfold childS
 repeat' split
 ·simp
 ·have := sent_len c w true c.2.2.1; omega
 ·have := sent_len c w false c.2.2.2; omega
 ·have h1 := sent_len c w w.2.2.1 (8 + facW c w)
  have h2 := sent_len c w (!w.2.2.1) (facW c w)
  simp only [List.length_append]; omega
theorem app_H {c : Cab} {w : Stp} {r : List Stp} (hv : cabV c) (hl : ∀ x ∈ w :: r, wvH c x) : ∀ x ∈ r ++ childS c w, wvH c x := fun x hx => by
 rcases List.mem_append.1 hx with hx | hx
 ·exact hl x (by simp [hx])
 ·exact child_H hv (hl w (by simp)) hx
abbrev G52 : Gam := G51
theorem g52 [Sx.Dr] : GamOk Tryz.prog G52 := g51
def cOr : Con := { args := [.val false (.list 3 sI)], ress := [I], owns := [], pre := fun (l, _) => [l.length ≤ 1000000], spec := fun (l, _) => (firstS l, ()) }
abbrev annOr (l : List Int) : Ann := { X := Nat, σ := fun k => ⟨1, [(3, .one (.int .i64 0)), (6, .one (.sl 0)), (7, .one (.int .i64 l.length)), (8, .one (.int .i64 k))], [(0, .imm 3 sI l)]⟩, inv := fun k => k ≤ l.length ∧ firstS l = firstS (l.drop k), mu := fun k => l.length - k }
theorem vc146 : ∀ (l : List Int), wpF Tryz.prog G52 (ann0 (annOr l)) Tryz.f146 cOr (l, ()) = (List.length l ≤ 1000000 → ∃ (x : Nat), ((0 : Int) = 0 ∧ (↑(List.length l) : Int) = (↑(List.length l) : Int) ∧ 0 = (↑x : Int) ∧ l = l) ∧ (x ≤ List.length l ∧ firstS l = firstS (List.drop x l)) ∧ ∀ (x : Nat), x ≤ List.length l ∧ firstS l = firstS (List.drop x l) → (decide ((↑x : Int) < (↑(List.length l) : Int)) = true → ((0 ≤ (↑x : Int) ∧ (↑x : Int) < (↑(List.length l) : Int)) ∧ 0 ≤ (↑x : Int) ∧ (↑x : Int) < (↑(List.length l) : Int)) ∧ ((List.getD l x (0 : Int) != 0) = true → List.getD l x 0 = firstS l) ∧ ((List.getD l x (0 : Int) != 0) = false → ((-9223372036854775808) ≤ (↑x : Int) + 1 ∧ (↑x : Int) + (1 : Int) ≤ 9223372036854775807) ∧ ∃ (y : Nat), ((0 : Int) = 0 ∧ (↑(List.length l) : Int) = (↑(List.length l) : Int) ∧ (↑x : Int) + 1 = (↑y : Int) ∧ l = l) ∧ (y ≤ List.length l ∧ firstS l = firstS (List.drop y l)) ∧ List.length l - y < List.length l - x)) ∧ (decide ((↑x : Int) < (↑(List.length l) : Int)) = false → 0 = firstS l)) := by
 intros
 kernel_rfl
theorem wp146 (l : List Int) : wpF Tryz.prog G52 (ann0 (annOr l)) Tryz.f146 cOr (l, ()) := by
 refine (vc146 l).mpr ?_
 intro hb
 refine ⟨(0 : Nat), ⟨rfl, rfl, rfl, rfl⟩, ⟨Nat.zero_le _, rfl⟩, fun (k : Nat) hk => ⟨fun h => ?_, fun h => ?_⟩⟩
 ·have hlt : k < l.length := by simpa using h
  have hd := firstS_drop hlt
  refine ⟨by omega, fun h1 => ?_, fun h1 => ⟨by omega, (k + 1 : Nat), ⟨rfl, rfl, by simp, rfl⟩, ⟨by omega, ?_⟩, by omega⟩⟩
  ·have h2 : ¬ l.getD k 0 = 0 := by simpa using h1
   rw [hk.2, hd, if_neg h2]
  ·have h2 : l.getD k 0 = 0 := by simpa using h1
   rw [hk.2, hd, if_pos h2]
 ·have hlt : ¬ k < l.length := by simpa using h
  have : k = l.length := by omega
  rw [hk.2, this, List.drop_length]; rfl
theorem ok146 [Sx.Dr] : Ok Tryz.prog 146 cOr := ok_of_wp mixed g52 (by kernel_rfl) (by kernel_rfl) (fun xx => ann0 (annOr xx.1)) fun xx => wp146 xx.1
abbrev G53 : Gam := (146, cOr) :: G52
theorem g53 [Sx.Dr] : GamOk Tryz.prog G53 := .cons ok146 g52
def cNan : Con := { args := [aI], ress := [Bo], owns := [], pre := fun _ => [], spec := fun _ => (false, ()) }
theorem vc185 : ∀ (x : Int), wpF Tryz.prog G53 (na ()) Tryz.f185 cNan (x, ()) = ((x != x) = false) := by
 intros
 kernel_rfl
theorem wp185 (x : Int) : wpF Tryz.prog G53 (na ()) Tryz.f185 cNan (x, ()) := by
 refine (vc185 x).mpr ?_
 simp
theorem ok185 [Sx.Dr] : Ok Tryz.prog 185 cNan := ok_of_wp mixed g53 (by kernel_rfl) (by kernel_rfl) na fun xx => wp185 xx.1
abbrev G54 : Gam := (185, cNan) :: G53
theorem g54 [Sx.Dr] : GamOk Tryz.prog G54 := .cons ok185 g53
def cmpI (x y : Int) : Int := if x < y then -1 else if y < x then 1 else 0
def cCmpI : Con := { args := [aI, aI], ress := [I], owns := [], pre := fun _ => [], spec := fun (x, y, _) => (cmpI x y, ()) }
theorem vc147 : ∀ (x y : Int), wpF Tryz.prog G54 (na ()) Tryz.f147 cCmpI (x, y, ()) = ((false = true → (false = true → 0 = cmpI x y) ∧ (false = false → (-1) = cmpI x y)) ∧ (false = false → (false = true → 1 = cmpI x y) ∧ (false = false → (decide (x < y) = true → (-1) = cmpI x y) ∧ (decide (x < y) = false → (decide (y < x) = true → 1 = cmpI x y) ∧ (decide (y < x) = false → 0 = cmpI x y))))) := by
 intros
 kernel_rfl
theorem wp147 (x y : Int) : wpF Tryz.prog G54 (na ()) Tryz.f147 cCmpI (x, y, ()) := by
 refine (vc147 x y).mpr ?_
 unfold cmpI
 refine ⟨fun h => (by cases h), fun _ => ⟨fun h => (by cases h), fun _ => ⟨fun h => ?_, fun h => ⟨fun h1 => ?_, fun h1 => ?_⟩⟩⟩⟩
 ·rw [if_pos (of_decide_eq_true h)]
 ·rw [if_neg (of_decide_eq_false h), if_pos (of_decide_eq_true h1)]
 ·rw [if_neg (of_decide_eq_false h), if_neg (of_decide_eq_false h1)]
theorem ok147 [Sx.Dr] : Ok Tryz.prog 147 cCmpI := ok_of_wp mixed g54 (by kernel_rfl) (by kernel_rfl) na fun xx => wp147 xx.1 xx.2.1
abbrev G55 : Gam := (147, cCmpI) :: G54
theorem g55 [Sx.Dr] : GamOk Tryz.prog G55 := .cons ok147 g54
def cNanS : Con := { args := [aS], ress := [Bo], owns := [], pre := fun _ => [], spec := fun _ => (false, ()) }
theorem vc217 : ∀ (x : ByteArray), wpF Tryz.prog G55 (na ()) Tryz.f217 cNanS (x, ()) = ((!ByteArray.toList x == ByteArray.toList x) = false) := by
 intros
 kernel_rfl
theorem wp217 (x : ByteArray) : wpF Tryz.prog G55 (na ()) Tryz.f217 cNanS (x, ()) := by
 refine (vc217 x).mpr ?_
 simp
theorem ok217 [Sx.Dr] : Ok Tryz.prog 217 cNanS := ok_of_wp mixed g55 (by kernel_rfl) (by kernel_rfl) na fun xx => wp217 xx.1
abbrev G56 : Gam := (217, cNanS) :: G55
theorem g56 [Sx.Dr] : GamOk Tryz.prog G56 := .cons ok217 g55
def bLt (x y : ByteArray) : Bool := Op.bytesLess x.toList y.toList
def cmpB (x y : ByteArray) : Int := if bLt x y = true then -1 else if x.toList = y.toList then 0 else 1
def cCmpS : Con := { args := [aS, aS], ress := [I], owns := [], pre := fun _ => [], spec := fun (x, y, _) => (cmpB x y, ()) }
theorem vc187 : ∀ (x y : ByteArray), wpF Tryz.prog G56 (na ()) Tryz.f187 cCmpS (x, y, ()) = ((false = true → (false = true → 0 = cmpB x y) ∧ (false = false → (-1) = cmpB x y)) ∧ (false = false → (false = true → 1 = cmpB x y) ∧ (false = false → (Op.bytesLess (ByteArray.toList x) (ByteArray.toList y) = true → (-1) = cmpB x y) ∧ (Op.bytesLess (ByteArray.toList x) (ByteArray.toList y) = false → ((!(Op.bytesLess (ByteArray.toList x) (ByteArray.toList y) || ByteArray.toList x == ByteArray.toList y)) = true → 1 = cmpB x y) ∧ ((!(Op.bytesLess (ByteArray.toList x) (ByteArray.toList y) || ByteArray.toList x == ByteArray.toList y)) = false → 0 = cmpB x y))))) := by
 intros
 kernel_rfl
theorem wp187 (x y : ByteArray) : wpF Tryz.prog G56 (na ()) Tryz.f187 cCmpS (x, y, ()) := by
 refine (vc187 x y).mpr ?_
 unfold cmpB bLt
 refine ⟨fun h => (by cases h), fun _ => ⟨fun h => (by cases h), fun _ => ⟨fun h => ?_, fun h => ⟨fun h1 => ?_, fun h1 => ?_⟩⟩⟩⟩
 ·rw [if_pos h]
 ·rw [if_neg (by simp [h]), if_neg]
  simpa [h] using h1
 ·rw [if_neg (by simp [h]), if_pos]
  simpa [h] using h1
theorem ok187 [Sx.Dr] : Ok Tryz.prog 187 cCmpS := ok_of_wp mixed g56 (by kernel_rfl) (by kernel_rfl) na fun xx => wp187 xx.1 xx.2.1
abbrev G57 : Gam := (187, cCmpS) :: G56
theorem g57 [Sx.Dr] : GamOk Tryz.prog G57 := .cons ok187 g56
def nb (b : Bool) : Int := bif b then 1 else 0
def cmpT (a b : Stp) : Int := if a = b then 0 else firstS [cmpI a.1 b.1, cmpI a.2.1 b.2.1, cmpI (nb a.2.2.1) (nb b.2.2.1), cmpI a.2.2.2.1 b.2.2.2.1, cmpI a.2.2.2.2 b.2.2.2.2]
def cCmpT : Con := { args := [.val true sStp, .val true sStp], ress := [I], owns := [], pre := fun _ => [], spec := fun (a, b, _) => (cmpT a b, ()) }
theorem vc90 : ∀ (a b : Stp), wpF Tryz.prog G57 (na ()) Tryz.f90 cCmpT (a, b, ()) = (((a.1 == b.1 && (a.2.1 == b.2.1 && (a.2.2.1 == b.2.2.1 && (a.2.2.2.1 == b.2.2.2.1 && (a.2.2.2.2 == b.2.2.2.2 && true))))) = true → 0 = cmpT a b) ∧ ((a.1 == b.1 && (a.2.1 == b.2.1 && (a.2.2.1 == b.2.2.1 && (a.2.2.2.1 == b.2.2.2.1 && (a.2.2.2.2 == b.2.2.2.2 && true))))) = false → 5 ≤ 1000000 ∧ firstS [cmpI a.1 b.1, cmpI a.2.1 b.2.1, cmpI (bif a.2.2.1 then 1 else 0) (bif b.2.2.1 then 1 else 0), cmpI a.2.2.2.1 b.2.2.2.1, cmpI a.2.2.2.2 b.2.2.2.2] = cmpT a b)) := by
 intros
 kernel_rfl
theorem wp90 (a b : Stp) : wpF Tryz.prog G57 (na ()) Tryz.f90 cCmpT (a, b, ()) := by
 refine (vc90 a b).mpr ?_
 unfold cmpT
 refine ⟨fun h => ?_, fun h => ⟨by omega, ?_⟩⟩
 ·simp only [Bool.and_eq_true, beq_iff_eq, Bool.and_true] at h
  obtain ⟨h1, h2, h3, h4, h5⟩ := h
  rw [if_pos (Prod.ext h1 (Prod.ext h2 (Prod.ext h3 (Prod.ext h4 h5))))]
 ·have : a ≠ b := by
   rintro rfl
   simp at h
  rw [if_neg this]; rfl
theorem ok90 [Sx.Dr] : Ok Tryz.prog 90 cCmpT := ok_of_wp mixed g57 (by kernel_rfl) (by kernel_rfl) na fun xx => wp90 xx.1 xx.2.1
abbrev G58 : Gam := (90, cCmpT) :: G57
theorem g58 [Sx.Dr] : GamOk Tryz.prog G58 := .cons ok90 g57
def ltP (a b : Stp) : Prop := a.1 < b.1 ∨ a.1 = b.1 ∧ (a.2.1 < b.2.1 ∨ a.2.1 = b.2.1 ∧ (nb a.2.2.1 < nb b.2.2.1 ∨ nb a.2.2.1 = nb b.2.2.1 ∧ (a.2.2.2.1 < b.2.2.2.1 ∨ a.2.2.2.1 = b.2.2.2.1 ∧ a.2.2.2.2 < b.2.2.2.2)))
theorem nb_inj {a b : Bool} (h : nb a = nb b) : a = b := by cases a <;> cases b <;> first | rfl | cases h
theorem ltP_irrefl (a : Stp) : ¬ ltP a a := by unfold ltP; omega
theorem ltP_trans {a b c : Stp} (h : ltP a b) (h' : ltP b c) : ltP a c := by unfold ltP at *; omega
theorem ltP_anti {a b : Stp} (h : ¬ ltP a b) (h' : ¬ ltP b a) : a = b := by
 unfold ltP at *
 have e1 : a.1 = b.1 := by omega
 have e2 : a.2.1 = b.2.1 := by omega
 have e3 : nb a.2.2.1 = nb b.2.2.1 := by omega
 have e4 : a.2.2.2.1 = b.2.2.2.1 := by omega
 have e5 : a.2.2.2.2 = b.2.2.2.2 := by omega
 exact Prod.ext e1 (Prod.ext e2 (Prod.ext (nb_inj e3) (Prod.ext e4 e5)))
theorem ltP_ntrans {a b c : Stp} (h : ¬ ltP a b) (h' : ¬ ltP b c) : ¬ ltP a c := by unfold ltP at *; omega
theorem before_iff (a b : Stp) : beforeS a b = true ↔ ltP a b := by
 unfold beforeS ltP
 by_cases h1 : a.1 = b.1
 ·rw [if_neg (by simpa using h1)]
  by_cases h2 : a.2.1 = b.2.1
  ·rw [if_neg (by simpa using h2)]
   by_cases h3 : a.2.2.1 = b.2.2.1
   ·rw [if_neg (by simpa using h3), h3]
    by_cases h4 : a.2.2.2.1 = b.2.2.2.1
    ·rw [if_neg (by simpa using h4), decide_eq_true_iff]; omega
    ·rw [if_pos (by simpa using h4), decide_eq_true_iff]; omega
   ·rw [if_pos (by simpa using h3)]
    have key : (b.2.2.1 = true ↔ nb a.2.2.1 < nb b.2.2.1) ∧ nb a.2.2.1 ≠ nb b.2.2.1 := by
     revert h3
     cases a.2.2.1 <;> cases b.2.2.1 <;> simp [nb]
    rw [key.1]
    have := key.2
    omega
  ·rw [if_pos (by simpa using h2), decide_eq_true_iff]; omega
 ·rw [if_pos (by simpa using h1), decide_eq_true_iff]; omega
theorem cmpT_iff (a b : Stp) : cmpT a b < 0 ↔ ltP a b := by
 unfold cmpT
 split
 ·rename_i e; subst e
  exact ⟨fun h => by omega, fun h => absurd h (ltP_irrefl a)⟩
 ·unfold ltP
  simp only [firstS, cmpI]
  generalize a.1 = a1; generalize b.1 = b1
  generalize a.2.1 = a2; generalize b.2.1 = b2
  generalize nb a.2.2.1 = a3; generalize nb b.2.2.1 = b3
  generalize a.2.2.2.1 = a4; generalize b.2.2.2.1 = b4
  generalize a.2.2.2.2 = a5; generalize b.2.2.2.2 = b5
  repeat' split
  all_goals omega
theorem ltOf_T (a b : Stp) : Proofs.ltOf cmpT a b = true ↔ ltP a b := by
 unfold Proofs.ltOf; rw [decide_eq_true_iff, cmpT_iff]
theorem ltOf_F {a b : Stp} : Proofs.ltOf cmpT a b = false ↔ ¬ ltP a b := by
 rw [← ltOf_T, Bool.not_eq_true]
theorem swoT : Sort.SWO (Proofs.ltOf cmpT) where
 irrefl x := ltOf_F.2 (ltP_irrefl x)
 trans x y z h1 h2 := (ltOf_T x z).2 (ltP_trans ((ltOf_T x y).1 h1) ((ltOf_T y z).1 h2))
 ntrans x y z h1 h2 := ltOf_F.2 (ltP_ntrans (ltOf_F.1 h1) (ltOf_F.1 h2))
abbrev srtd (l : List Stp) : Prop := l.Pairwise fun a b => ¬ ltP b a
theorem insS_perm (x : Stp) : ∀ l, (insS x l).Perm (x :: l)
 | [] => .refl _
 | y :: r => by
  simp only [insS]
  split
  ·exact .refl _
  ·exact ((insS_perm x r).cons y).trans (.swap x y r)
theorem insS_sorted {x : Stp} : ∀ {l : List Stp}, srtd l → srtd (insS x l)
 | [], _ => by simp [insS]
 | y :: r, h => by
  replace h := List.pairwise_cons.1 h
  simp only [insS]
  split
  ·rename_i hb
   have hb := (before_iff x y).1 hb
   refine List.pairwise_cons.2 ⟨fun z hz => ?_, List.pairwise_cons.2 h⟩
   rcases List.mem_cons.1 hz with rfl | hz
   ·exact fun q => ltP_irrefl _ (ltP_trans hb q)
   ·exact fun q => h.1 z hz (ltP_trans q hb)
  ·rename_i hb
   have hb : ¬ ltP x y := fun q => hb ((before_iff x y).2 q)
   refine List.pairwise_cons.2 ⟨fun z hz => ?_, insS_sorted h.2⟩
   rcases List.mem_cons.1 ((insS_perm x r).mem_iff.1 hz) with rfl | hz
   ·exact hb
   ·exact h.1 z hz
theorem insAll_perm : ∀ (l o : List Stp), (insAll o l).Perm (o ++ l)
 | [], o => by simp [insAll]
 | x :: r, o => by
  simp only [insAll]
  refine (insAll_perm r (insS x o)).trans ?_
  refine ((insS_perm x o).append_right r).trans ?_
  exact List.perm_middle.symm
theorem insAll_sorted : ∀ (l : List Stp) {o : List Stp}, srtd o → srtd (insAll o l)
 | [], _, h => h
 | _ :: r, _, h => insAll_sorted r (insS_sorted h)
theorem srtd_unique : ∀ {l l' : List Stp}, l.Perm l' → srtd l → srtd l' → l = l'
 | [], l', h, _, _ => by simpa using h
 | x :: r, [], h, _, _ => by simp at h
 | x :: r, y :: r', h, h1, h2 => by
  by_cases e : x = y
  ·subst e
   rw [srtd_unique h.cons_inv (List.pairwise_cons.1 h1).2 (List.pairwise_cons.1 h2).2]
  ·have m1 : x ∈ r' := by
    have := h.mem_iff.1 (show x ∈ x :: r by simp)
    rcases List.mem_cons.1 this with q | q
    ·exact absurd q e
    ·exact q
   have m2 : y ∈ r := by
    have := h.mem_iff.2 (show y ∈ y :: r' by simp)
    rcases List.mem_cons.1 this with q | q
    ·exact absurd q.symm e
    ·exact q
   have l1 := (List.pairwise_cons.1 h1).1 y m2
   have l2 := (List.pairwise_cons.1 h2).1 x m1
   exact absurd (ltP_anti l2 l1) e
def sortT (l : List Stp) : List Stp := insAll [] l
def encT (x : Stp) : List Value := [.int .i64 x.1, .int .i64 x.2.1, .bool x.2.2.1, .int .i64 x.2.2.2.1, .int .i64 x.2.2.2.2]
theorem encT_rep (M : Nat → Prop) (w : World) (x : Stp) (cs : List Value) : Rep M w sStp x cs ↔ cs = encT x := by
 constructor
 ·rintro ⟨a, b, rfl, ha, c, d, rfl, hc, e, f, rfl, he, g, h, rfl, hg, hh⟩
  have ha : a = [.int .i64 x.1] := ha
  have hc : c = [.int .i64 x.2.1] := hc
  have he : e = [.bool x.2.2.1] := he
  have hg : g = [.int .i64 x.2.2.2.1] := hg
  have hh : h = [.int .i64 x.2.2.2.2] := hh
  subst ha; subst hc; subst he; subst hg; subst hh; rfl
 ·rintro rfl
  exact ⟨_, _, rfl, rfl, _, _, rfl, rfl, _, _, rfl, rfl, _, _, rfl, rfl, rfl⟩
instance : Inhabited (Sch.T sStp) := ⟨(0, 0, false, 0, 0)⟩
theorem cmp_call [Sx.Dr] (w : World) (x y : Stp) (hG : Sx.Good Tryz.prog w) : Calls Tryz.prog 90 #[.agg (encT x).toArray, .agg (encT y).toArray] w fun e w' => e = .returned (.int .i64 (cmpT x y)) ∧ RowKit.Below w.heap.size w w' ∧ w.drawn ≤ w'.drawn := by
 have h := (@ok90 .on).2.2.2 rfl (x, y, ()) (fun _ => False) (fun _ => False) w [.agg (encT x).toArray, .agg (encT y).toArray] (fun b hb => by rcases hb with hb | hb <;> exact hb.elim) hG.on trivial ⟨_, _, rfl, ⟨encT x, rfl, (encT_rep _ _ _ _).2 rfl⟩, _, _, rfl, ⟨encT y, rfl, (encT_rep _ _ _ _).2 rfl⟩, rfl⟩
 refine h.mono ?_
 rintro e w' ⟨M', vs, rfl, hb, _, _, hr⟩
 obtain ⟨v, vs', rfl, ⟨cs, rfl, hc⟩, hr⟩ := hr
 have hc : cs = [.int .i64 (cmpT x y)] := hc
 have hr : vs' = [] := hr
 subst hc; subst hr
 exact ⟨rfl, @Sx.Below.kit .on _ _ _ hb, hb.dr⟩
theorem sort89 (g cap : Nat) (d : Array Stp) (w : World) (hH : Sort.HoldsK encT 5 w g 0 d) (hg : g < w.heap.size) (hd : d.size < 4611686018427387904) (hc : Proofs.CmpLays Tryz.prog 90 #[] encT 5 cmpT g 0 d.size w) :
  Calls Tryz.prog 89 #[.slice (some ⟨g, 0, none⟩) d.size cap, .func (.func 90) #[] #[]] w fun e w' => e = .returned (.tuple #[]) ∧ ∃ d' n os, Sort.PermIn 0 d.size d d' ∧ Sort.SortedIn (Proofs.ltOf cmpT) 0 d.size d' ∧ w' = Proofs.sortWorldK encT 5 w g 0 n d' os := by
 have eg : ∀ args w, (callFunc 90 args).run Tryz.prog w = .ok (.enter 90 args) w := Proofs.enters_of Tryz.func90 (by kernel_rfl) rfl
 exact Proofs.AnyQ.slices_SortFunc Proofs.Tryz.sortO 5 Tryz.isAgg163 Tryz.sizeOf163 encT (fun _ => rfl) (fun x v hv => by simp [encT] at hv; rcases hv with rfl | rfl | rfl | rfl | rfl <;> rfl) cmpT swoT 90 #[] g 0 cap d w eg hc hH hg hd
theorem sort89_none (w : World) : Calls Tryz.prog 89 #[.slice none 0 0, .func (.func 90) #[] #[]] w fun e w' => e = .returned (.tuple #[]) ∧ w' = w :=
 Proofs.AnyF.slices_SortFunc_none Proofs.Tryz.sortO none 0 _ w
theorem sort_ok89 [Sx.Dr] : SortOk Tryz.prog 89 { T := 163, s := sStp, g := 90, pre := fun l => l.length ≤ 1000000, f := sortT } :=
 sort_gen (s := sStp) (T := 163) (k := 5) encT (fun _ => rfl) rfl encT_rep cmpT _ _ sort89 sort89_none cmp_call
  (fun xs ys _ hp hs => srtd_unique (hp.trans (show xs.Perm (sortT xs) from (insAll_perm xs []).symm)) (hs.imp fun h => ltOf_F.1 h) (insAll_sorted xs .nil))
  (fun xs h => h)
def cSortT : Con := { args := [], ress := [], owns := [], pre := fun _ => [False], spec := fun _ => (), srt := some { T := 163, s := sStp, g := 90, pre := fun l => l.length ≤ 1000000, f := sortT } }
theorem ok89 [Sx.Dr] : Ok Tryz.prog 89 cSortT := ⟨⟨Tryz.f89, by kernel_rfl, by kernel_rfl, by kernel_rfl⟩, fun z hz => (by cases hz; exact sort_ok89), fun F hF => (by cases hF), fun h => by cases h⟩
abbrev G59 : Gam := (89, cSortT) :: G58
theorem g59 [Sx.Dr] : GamOk Tryz.prog G59 := .cons ok89 g58
def cId88 : Con := { args := [aW], ress := [RStp], owns := [], pre := fun _ => [], spec := fun (w, _) => (w, ()) }
theorem vc88 : ∀ (w : Stp), wpF Tryz.prog G59 (na ()) Tryz.f88 cId88 (w, ()) = ((w.1, w.2.1, w.2.2.1, w.2.2.2.1, w.2.2.2.2) = w) := by
 intros
 kernel_rfl
theorem wp88 (w : Stp) : wpF Tryz.prog G59 (na ()) Tryz.f88 cId88 (w, ()) := by
 refine (vc88 w).mpr ?_
 trivial
theorem ok88 [Sx.Dr] : Ok Tryz.prog 88 cId88 := ok_of_wp mixed g59 (by kernel_rfl) (by kernel_rfl) na fun xx => wp88 xx.1
abbrev G60 : Gam := (88, cId88) :: G59
theorem g60 [Sx.Dr] : GamOk Tryz.prog G60 := .cons ok88 g59
def cMapTT : Con := { args := [.val false (.list 170 sStp), .fn [RStp] RStp], ress := [(false, .list 163 sStp)], owns := [true], pre := fun (l, (q, _), _) => [l.length ≤ 1000000, ∀ x ∈ l, conj (q (x, ()))], spec := fun (l, (_, f), _) => (l.map fun x => f (x, ()), ()) }
def vc85_0 (l : List Stp) (q : Stp × Unit → List Prop) (f : Stp × Unit → Stp) (x : Nat) := (((List.getD l x ((0 : Int), (0 : Int), false, (0 : Int), (0 : Int))).1, (List.getD l x ((0 : Int), (0 : Int), false, (0 : Int), (0 : Int))).2.1, (List.getD l x ((0 : Int), (0 : Int), false, (0 : Int), (0 : Int))).2.2.1, (List.getD l x ((0 : Int), (0 : Int), false, (0 : Int), (0 : Int))).2.2.2.1, (List.getD l x ((0 : Int), (0 : Int), false, (0 : Int), (0 : Int))).2.2.2.2), PUnit.unit)
theorem vc85 : ∀ (l : List Stp) (q : Stp × Unit → List Prop) (f : Stp × Unit → Stp), wpF Tryz.prog G60 (ann0 (annMap (170 : TypeId) (163 : TypeId) sStp l RStp true q f)) Tryz.f85 cMapTT (l, (q, f), ()) = (List.length l ≤ 1000000 → (∀ (x : Int × Int × Bool × Int × Int), x ∈ l → conj (q (x, PUnit.unit))) → ∃ (x : Nat), ((↑(List.length l) : Int) = (↑(List.length l) : Int) ∧ 0 = (↑x : Int) ∧ l = l ∧ (fun (x : (Int × Int × Bool × Int × Int) × PUnit) => q x) = q ∧ (fun (x : (Int × Int × Bool × Int × Int) × PUnit) => f x) = f ∧ List.length (List.map (fun (x : Int × Int × Bool × Int × Int) => f (x, PUnit.unit)) (List.take x l)) = 0) ∧ x ≤ List.length l ∧ ∀ (x : Nat), x ≤ List.length l → (decide ((↑x : Int) < (↑(List.length l) : Int)) = true → ((0 ≤ (↑x : Int) ∧ (↑x : Int) < (↑(List.length l) : Int)) ∧ 0 ≤ (↑x : Int) ∧ (↑x : Int) < (↑(List.length l) : Int)) ∧ (conj (q (vc85_0 l q f x)) ∧ (List.length (List.map (fun (x : Int × Int × Bool × Int × Int) => f (x, PUnit.unit)) (List.take x l)) + 1) * 40 ≤ 140737488355328) ∧ ((-9223372036854775808) ≤ (↑x : Int) + 1 ∧ (↑x : Int) + (1 : Int) ≤ 9223372036854775807) ∧ ∃ (y : Nat), ((↑(List.length l) : Int) = (↑(List.length l) : Int) ∧ (↑x : Int) + 1 = (↑y : Int) ∧ l = l ∧ (fun (x : (Int × Int × Bool × Int × Int) × PUnit) => q x) = q ∧ (fun (x : (Int × Int × Bool × Int × Int) × PUnit) => f x) = f ∧ List.map (fun (x : Int × Int × Bool × Int × Int) => f (x, PUnit.unit)) (List.take x l) ++ [((f (vc85_0 l q f x)).1, (f (vc85_0 l q f x)).2.1, (f (vc85_0 l q f x)).2.2.1, (f (vc85_0 l q f x)).2.2.2.1, (f (vc85_0 l q f x)).2.2.2.2)] = List.map (fun (x : Int × Int × Bool × Int × Int) => f (x, PUnit.unit)) (List.take y l)) ∧ y ≤ List.length l ∧ List.length l - y < List.length l - x) ∧ (decide ((↑x : Int) < (↑(List.length l) : Int)) = false → List.map (fun (x : Int × Int × Bool × Int × Int) => f (x, PUnit.unit)) (List.take x l) = List.map (fun (x : Int × Int × Bool × Int × Int) => f (x, PUnit.unit)) l)) := by
 intros
 kernel_rfl
theorem wp85 (l : List Stp) (q : Stp × Unit → List Prop) (f : Stp × Unit → Stp) : wpF Tryz.prog G60 (ann0 (annMap 170 163 sStp l RStp true q f)) Tryz.f85 cMapTT (l, (q, f), ()) := by
 refine (vc85 l q f).mpr ?_
 delta vc85_0
 intro hb hq
 refine ⟨(0 : Nat), ⟨rfl, rfl, rfl, rfl, rfl, by simp⟩, Nat.zero_le _, fun (k : Nat) hk => ⟨fun h => ?_, fun h => ?_⟩⟩
 ·have hlt : k < l.length := by simpa using h
  refine ⟨by omega, ⟨hq (l.getD k (0, 0, false, 0, 0)) (getD_mem hlt), by simp only [List.length_map, List.length_take]; omega⟩, by omega, (k + 1 : Nat), ⟨rfl, by simp, rfl, rfl, rfl, ?_⟩, by omega, by omega⟩
  rw [← take_snoc (d := (0, 0, false, 0, 0)) hlt, List.map_append]; rfl
 ·have hlt : ¬ k < l.length := by simpa using h
  rw [List.take_of_length_le (by omega)]
theorem ok85 [Sx.Dr] : Ok Tryz.prog 85 cMapTT := ok_of_wp mixed g60 (by kernel_rfl) (by kernel_rfl) (fun xx => ann0 (annMap 170 163 sStp xx.1 RStp true xx.2.1.1 xx.2.1.2)) fun xx => wp85 xx.1 xx.2.1.1 xx.2.1.2
abbrev G61 : Gam := (85, cMapTT) :: G60
theorem g61 [Sx.Dr] : GamOk Tryz.prog G61 := .cons ok85 g60
theorem winS_V {c : Cab} {f : Flt} {win : Int} (h : winS c f win = 0) : fltS c f = 0 ∧ 0 ≤ win ∧ win ≤ 1000 := by
 have h := firstS_zero (show firstS [fltS c f, withinS win 0 1000] = 0 from h)
 simp only [List.mem_cons, List.not_mem_nil, or_false, forall_eq_or_imp, forall_eq] at h
 exact ⟨h.1, within_zero.1 h.2⟩
def runP (c : Cab) (f : Flt) (win : Int) : List Stp := if winS c f win = 0 then sortT (wavesS c f win) else []
def cRun : Con := { args := [aC, aF, aI], ress := [(false, .list 163 sStp), I], owns := [], pre := fun (c, f, win, _) => [c.1.length ≤ 1000000, c.2.1.length ≤ 1000000], spec := fun (c, f, win, _) => (runP c f win, winS c f win, ()) }
abbrev annWv (c : Cab) (f : Flt) (win : Int) : Ann := { X := List Stp × List Stp, σ := fun p => ⟨16, [(0, .one (.fv 12)), (2, .one (.ptr 5 0)), (3, .one (.ptr 7 0)), (7, .one (.sl 14))], [(0, .imm 166 sPt c.1), (1, .imm 3 sI c.2.1), (5, .box 37 [.sl 0, .sl 1, .int .i64 c.2.2.1, .int .i64 c.2.2.2]), (7, .box 3 [.int .i64 (f.2.2.1 + win)]), (11, .box 171 [.sl 15]), (12, .yld .ready), (13, .sus [(2, .one (.ptr 11 0))]), (9, .sus []), (10, .sus []), (14, .ownT 170 sStp p.1), (15, .own 170 sStp p.2)]⟩, inv := fun p => (∀ w ∈ p.1, wvH c w) ∧ fltV c f ∧ (0 ≤ win ∧ win ≤ 1000) ∧ p.2 ++ runS c (f.2.2.1 + win) p.1 = wavesS c f win ∧ p.2.length + wtL p.1 ≤ 4374, mu := fun p => wtL p.1 }
def vc20_0 (c : Cab) (f : Flt) (win : Int) (x : List Stp × List Stp) := ((List.getD x.1 (0 : Nat) ((0 : Int), (0 : Int), false, (0 : Int), (0 : Int))).1, (List.getD x.1 (0 : Nat) ((0 : Int), (0 : Int), false, (0 : Int), (0 : Int))).2.1, (List.getD x.1 (0 : Nat) ((0 : Int), (0 : Int), false, (0 : Int), (0 : Int))).2.2.1, (List.getD x.1 (0 : Nat) ((0 : Int), (0 : Int), false, (0 : Int), (0 : Int))).2.2.2.1, (List.getD x.1 (0 : Nat) ((0 : Int), (0 : Int), false, (0 : Int), (0 : Int))).2.2.2.2)
theorem vc20 : ∀ (c : Cab) (f : Flt) (win : Int), wpFG Tryz.prog G61 (na ()) (fun (g : FuncId) (id : Nat) => if g = (142 : FuncId) then some (annWv c f win) else none) (Sx.look [(86, Tryz.f86), (87, Tryz.f87), (141, Tryz.f141), (142, Tryz.f142)]) Tryz.f20 cRun (c, f, win, ()) = (List.length c.1 ≤ 1000000 → List.length c.2.1 ≤ 1000000 → (List.length c.1 ≤ 1000000 ∧ List.length c.2.1 ≤ 1000000) ∧ ((winS (c.1, c.2.1, c.2.2.1, c.2.2.2) (f.1, f.2.1, f.2.2.1, f.2.2.2) win != 0) = true → true = true ∧ [] = runP c f win ∧ winS (c.1, c.2.1, c.2.2.1, c.2.2.2) (f.1, f.2.1, f.2.2.1, f.2.2.2) win = winS c f win) ∧ ((winS (c.1, c.2.1, c.2.2.1, c.2.2.2) (f.1, f.2.1, f.2.2.1, f.2.2.2) win != 0) = false → (I64 (f.2.2.1 + win)) ∧ ((-9223372036854775808) ≤ f.2.2.2 * 262144 ∧ f.2.2.2 * (262144 : Int) ≤ 9223372036854775807) ∧ ((0 ≤ f.1 ∧ f.1 < (↑(List.length c.1) : Int)) ∧ (0 ≤ f.1 ∧ f.1 < (↑(List.length c.1) : Int)) ∧ I64 ((List.getD c.1 (Int.toNat f.1) (0, 0)).2 - f.2.1)) ∧ ((I64 (f.2.2.1 + f.2.1)) ∧ (I64 (f.2.2.1 + ((List.getD c.1 (Int.toNat f.1) (0, 0)).2 - f.2.1))) ∧ (-9223372036854775808) ≤ f.1 + 1 ∧ f.1 + (1 : Int) ≤ 9223372036854775807) ∧ ∃ (x : List (Int × Int × Bool × Int × Int) × List (Int × Int × Bool × Int × Int)), (c.1 = c.1 ∧ c.2.1 = c.2.1 ∧ c.2.2.1 = c.2.2.1 ∧ c.2.2.2 = c.2.2.2 ∧ f.2.2.1 + win = f.2.2.1 + win ∧ [(f.2.2.1 + f.2.1, f.1, false, 0, f.2.2.2 * 262144), (f.2.2.1 + ((List.getD c.1 (Int.toNat f.1) (0, 0)).2 - f.2.1), f.1 + 1, true, 0, f.2.2.2 * 262144)] = x.1 ∧ List.length x.2 = 0) ∧ ((∀ (w : Stp), w ∈ x.1 → wvH c w) ∧ fltV c f ∧ (0 ≤ win ∧ win ≤ 1000) ∧ x.2 ++ runS c (f.2.2.1 + win) x.1 = wavesS c f win ∧ List.length x.2 + wtL x.1 ≤ 4374) ∧ ∀ (x : List Stp × List Stp), (∀ (w : Stp), w ∈ x.1 → wvH c w) ∧ fltV c f ∧ (0 ≤ win ∧ win ≤ 1000) ∧ x.2 ++ runS c (f.2.2.1 + win) x.1 = wavesS c f win ∧ List.length x.2 + wtL x.1 ≤ 4374 → (decide (0 < (↑(List.length x.1) : Int)) = true → (((0 : Int) ≤ 0 ∧ 0 < (↑(List.length x.1) : Int)) ∧ (0 : Int) ≤ 0 ∧ 0 < (↑(List.length x.1) : Int)) ∧ ((0 : Int) ≤ 1 ∧ 1 ≤ (↑(List.length x.1) : Int)) ∧ (decide (f.2.2.1 + win < (List.getD x.1 0 (0, 0, false, 0, 0)).1) = true → ∃ (y : List (Int × Int × Bool × Int × Int) × List (Int × Int × Bool × Int × Int)), (c.1 = c.1 ∧ c.2.1 = c.2.1 ∧ c.2.2.1 = c.2.2.1 ∧ c.2.2.2 = c.2.2.2 ∧ f.2.2.1 + win = f.2.2.1 + win ∧ List.drop 1 x.1 = y.1 ∧ x.2 = y.2) ∧ ((∀ (w : Stp), w ∈ y.1 → wvH c w) ∧ fltV c f ∧ (0 ≤ win ∧ win ≤ 1000) ∧ y.2 ++ runS c (f.2.2.1 + win) y.1 = wavesS c f win ∧ List.length y.2 + wtL y.1 ≤ 4374) ∧ wtL y.1 < wtL x.1) ∧ (decide (f.2.2.1 + win < (List.getD x.1 0 (0, 0, false, 0, 0)).1) = false → (List.length x.2 + 1) * 40 ≤ 140737488355328 ∧ (false = true → (List.length (x.2 ++ [(vc20_0 c f win x)]) ≤ 1000000 ∧ ∀ (x_1 : Int × Int × Bool × Int × Int), x_1 ∈ x.2 ++ [(vc20_0 c f win x)] → True) ∧ List.length (List.map (fun (x : Int × Int × Bool × Int × Int) => x) (x.2 ++ [(vc20_0 c f win x)])) ≤ 1000000 ∧ true = true ∧ sortT (List.map (fun (x : Int × Int × Bool × Int × Int) => x) (x.2 ++ [(vc20_0 c f win x)])) = runP c f win ∧ 0 = winS c f win) ∧ (false = false → (cabS (c.1, c.2.1, c.2.2.1, c.2.2.2) = 0 ∧ wvC (c.1, c.2.1, c.2.2.1, c.2.2.2) (vc20_0 c f win x)) ∧ (List.length (List.drop 1 x.1) + List.length (childS (c.1, c.2.1, c.2.2.1, c.2.2.2) (vc20_0 c f win x))) * 40 ≤ 140737488355328 ∧ ∃ (y : List (Int × Int × Bool × Int × Int) × List (Int × Int × Bool × Int × Int)), (c.1 = c.1 ∧ c.2.1 = c.2.1 ∧ c.2.2.1 = c.2.2.1 ∧ c.2.2.2 = c.2.2.2 ∧ f.2.2.1 + win = f.2.2.1 + win ∧ List.drop 1 x.1 ++ childS (c.1, c.2.1, c.2.2.1, c.2.2.2) (vc20_0 c f win x) = y.1 ∧ x.2 ++ [(vc20_0 c f win x)] = y.2) ∧ ((∀ (w : Stp), w ∈ y.1 → wvH c w) ∧ fltV c f ∧ (0 ≤ win ∧ win ≤ 1000) ∧ y.2 ++ runS c (f.2.2.1 + win) y.1 = wavesS c f win ∧ List.length y.2 + wtL y.1 ≤ 4374) ∧ wtL y.1 < wtL x.1))) ∧ (decide (0 < (↑(List.length x.1) : Int)) = false → (List.length x.2 ≤ 1000000 ∧ ∀ (x_1 : Int × Int × Bool × Int × Int), x_1 ∈ x.2 → True) ∧ List.length (List.map (fun (x : Int × Int × Bool × Int × Int) => x) x.2) ≤ 1000000 ∧ true = true ∧ sortT (List.map (fun (x : Int × Int × Bool × Int × Int) => x) x.2) = runP c f win ∧ 0 = winS c f win))) := by
 intros
 kernel_rfl
theorem wp20 (c : Cab) (f : Flt) (win : Int) : wpFG Tryz.prog G61 (na ()) (fun g id => if g = 142 then some (annWv c f win) else none) (Sx.look ([(86, Tryz.f86), (87, Tryz.f87), (141, Tryz.f141), (142, Tryz.f142)] : List (Nat × Func))) Tryz.f20 cRun (c, f, win, ()) := by
 refine (vc20 c f win).mpr ?_
 delta vc20_0
 delta I64
 intro h1 h2
 refine ⟨⟨h1, h2⟩, fun e => ?_, fun e => ?_⟩
 ·have e : ¬ winS c f win = 0 := bne_zero.1 e
  unfold runP; rw [if_neg e]; exact ⟨rfl, rfl, rfl⟩
 have e : winS c f win = 0 := bne_zero'.1 e
 obtain ⟨ef, hw⟩ := winS_V e
 obtain ⟨hc, hfv⟩ := fltS_V ef
 have hv := hfv.1
 obtain ⟨_, g1, g2, g3, g4, g5⟩ := id hfv
 have b := hv.2.2.1 _ (getD_mem (d := (0, 0)) (l := c.1) (k := f.1.toNat) (by omega))
 have hi := initS_H hfv
 have hlen := hv.2.1
 refine ⟨by omega, by omega, ⟨g1, g1, by omega⟩, ⟨by omega, by omega, by omega⟩, (initS c f, []), ⟨rfl, rfl, rfl, rfl, rfl, rfl, rfl⟩, ⟨hi, hfv, hw, rfl, by show 0 + wtL (initS c f) ≤ 4374; rw [initS_wt]; omega⟩, fun p hp => ?_⟩
 obtain ⟨o, out⟩ := p
 obtain ⟨p1, _, _, p2, p3⟩ := hp
 replace p2 : out ++ runS c (f.2.2.1 + win) o = wavesS c f win := p2
 replace p3 : out.length + wtL o ≤ 4374 := p3
 cases o with
 | nil =>
  refine ⟨fun h1 => by simp at h1, fun h1 => ⟨⟨by show out.length ≤ 1000000; omega, fun _ _ => trivial⟩, by show (out.map fun x => x).length ≤ 1000000; simp; omega, rfl, ?_, e.symm⟩⟩
  show sortT (out.map fun x => x) = runP c f win
  have p2 : out = wavesS c f win := by rw [← p2]; exact (List.append_nil out).symm
  unfold runP
  rw [if_pos e, ← p2, List.map_id'']
  intro x; rfl
 | cons w r =>
  have hw' : wvH c w := p1 w (by simp)
  have hr := runS_cons (last := f.2.2.1 + win) hv p1
  have hc' := child_wt (c := c) hw'.1
  have hp := wt_pos w
  have hl1 := len_wt r
  have hl2 := child_len c w
  simp only [wtL] at p3
  rw [hr] at p2
  refine ⟨fun h1 => ?_, fun h1 => by simp at h1⟩
  have l1 : 0 < ((w :: r).length : Int) := by simp only [List.length_cons]; omega
  refine ⟨⟨⟨by omega, l1⟩, by omega, l1⟩, ⟨by omega, l1⟩, fun h2 => ?_, fun h2 => ?_⟩
  ·have h2 : f.2.2.1 + win < w.1 := of_decide_eq_true h2
   rw [if_pos h2] at p2
   refine ⟨(r, out), ⟨rfl, rfl, rfl, rfl, rfl, rfl, rfl⟩, ⟨fun x hx => p1 x (by simp [hx]), hfv, hw, p2, ?_⟩, ?_⟩
   ·show out.length + wtL r ≤ 4374
    omega
   ·show wtL r < wtL (w :: r)
    simp only [wtL]; omega
  ·have h2 : ¬ f.2.2.1 + win < w.1 := of_decide_eq_false h2
   rw [if_neg h2] at p2
   refine ⟨by show (out.length + 1) * 40 ≤ 140737488355328; omega, fun h => (by cases h), fun _ => ⟨⟨hc, wvH_C hv hw'⟩, ?_, (r ++ childS c w, out ++ [w]), ⟨rfl, rfl, rfl, rfl, rfl, rfl, rfl⟩, ⟨app_H hv p1, hfv, hw, ?_, ?_⟩, ?_⟩⟩
   ·show (r.length + (childS c w).length) * 40 ≤ 140737488355328
    omega
   ·show (out ++ [w]) ++ runS c (f.2.2.1 + win) (r ++ childS c w) = wavesS c f win
    rw [List.append_assoc]; exact p2
   ·show (out ++ [w]).length + wtL (r ++ childS c w) ≤ 4374
    rw [wtL_append, List.length_append, List.length_singleton]; omega
   ·show wtL (r ++ childS c w) < wtL (w :: r)
    rw [wtL_append]; simp only [wtL]; omega
theorem ok20 [Sx.Dr] : Ok Tryz.prog 20 cRun := ok_of_wpG mixed g61 (by kernel_rfl) (by kernel_rfl) (lib_ok (List.forall_mem_cons.2 ⟨by kernel_rfl, List.forall_mem_cons.2 ⟨by kernel_rfl, List.forall_mem_cons.2 ⟨by kernel_rfl, List.forall_mem_cons.2 ⟨by kernel_rfl, by simp⟩⟩⟩⟩)) (fun xx => na ()) (fun xx => fun g id => if g = 142 then some (annWv xx.1 xx.2.1 xx.2.2.1) else none) fun xx => wp20 xx.1 xx.2.1 xx.2.2.1
abbrev G62 : Gam := (20, cRun) :: G61
theorem g62 [Sx.Dr] : GamOk Tryz.prog G62 := .cons ok20 g61
abbrev Arr : Type := Int × ByteArray × Int
abbrev sArr : Sch := .prod sI (.prod .str sI)
abbrev aA : AK := .val true sArr
theorem bl_irrefl : ∀ x : List UInt8, Op.bytesLess x x = false
 | [] => rfl
 | a :: x => by simp [Op.bytesLess, bl_irrefl x]
theorem bl_trans : ∀ {x y z : List UInt8}, Op.bytesLess x y = true → Op.bytesLess y z = true → Op.bytesLess x z = true
 | _, [], _, h, _ => by cases ‹List UInt8› <;> simp [Op.bytesLess] at h
 | _, _ :: _, [], _, h => by simp [Op.bytesLess] at h
 | [], _ :: _, _ :: _, _, _ => rfl
 | a :: x, b :: y, c :: z, h, h' => by
  simp only [Op.bytesLess, Bool.or_eq_true, decide_eq_true_eq, Bool.and_eq_true, beq_iff_eq] at h h' ⊢
  rcases h with h | ⟨rfl, h⟩
  ·rcases h' with h' | ⟨rfl, h'⟩
   ·exact .inl (UInt8.lt_trans h h')
   ·exact .inl h
  ·rcases h' with h' | ⟨rfl, h'⟩
   ·exact .inl h'
   ·exact .inr ⟨rfl, bl_trans h h'⟩
theorem bl_tri : ∀ {x y : List UInt8}, Op.bytesLess x y = false → Op.bytesLess y x = false → x = y
 | [], [], _, _ => rfl
 | [], _ :: _, h, _ => by simp [Op.bytesLess] at h
 | _ :: _, [], _, h => by simp [Op.bytesLess] at h
 | a :: x, b :: y, h, h' => by
  simp only [Op.bytesLess, Bool.or_eq_false_iff, decide_eq_false_iff_not, Bool.and_eq_false_iff, beq_eq_false_iff_ne] at h h'
  have e : a = b := UInt8.le_antisymm (UInt8.not_lt.1 h'.1) (UInt8.not_lt.1 h.1)
  subst e
  rw [bl_tri (h.2.resolve_left fun q => q rfl) (h'.2.resolve_left fun q => q rfl)]
theorem ba_ext {x y : ByteArray} (h : x.toList = y.toList) : x = y := by
 rw [Lib.toList_data, Lib.toList_data] at h
 exact ByteArray.ext (Array.ext' h)
def ltA (a b : Arr) : Prop := a.1 < b.1 ∨ a.1 = b.1 ∧ bLt a.2.1 b.2.1 = true
def cmpA (a b : Arr) : Int := firstS [cmpI a.1 b.1, cmpB a.2.1 b.2.1]
theorem ltA_irrefl (a : Arr) : ¬ ltA a a := by
 rintro (h | ⟨_, h⟩)
 ·omega
 ·unfold bLt at h; rw [bl_irrefl] at h; cases h
theorem ltA_trans {a b c : Arr} (h : ltA a b) (h' : ltA b c) : ltA a c := by
 rcases h with h | ⟨e, h⟩ <;> rcases h' with h' | ⟨e', h'⟩
 ·exact .inl (by omega)
 ·exact .inl (by omega)
 ·exact .inl (by omega)
 ·exact .inr ⟨by omega, bl_trans h h'⟩
theorem ltA_tri {a b : Arr} (h : ¬ ltA b a) (hk : ¬ (a.1 = b.1 ∧ a.2.1 = b.2.1)) : ltA a b := by
 unfold ltA at *
 by_cases e : a.1 = b.1
 ·refine .inr ⟨e, ?_⟩
  have h1 : bLt b.2.1 a.2.1 = false := by
   cases hb : bLt b.2.1 a.2.1 with
   | false => rfl
   | true => exact absurd (.inr ⟨e.symm, hb⟩) h
  cases hb : bLt a.2.1 b.2.1 with
  | true => rfl
  | false => exact absurd ⟨e, ba_ext (bl_tri hb h1)⟩ hk
 ·exact .inl (by omega)
theorem ltA_ntrans {a b c : Arr} (h : ¬ ltA a b) (h' : ¬ ltA b c) : ¬ ltA a c := by
 intro q
 by_cases e : b.1 = a.1 ∧ b.2.1 = a.2.1
 ·refine h' ?_
  unfold ltA at q ⊢
  rw [e.1, e.2]; exact q
 ·exact h' (ltA_trans (ltA_tri h e) q)
theorem cmpB_lt (x y : ByteArray) : cmpB x y < 0 ↔ bLt x y = true := by
 unfold cmpB
 split
 ·rename_i h; simp [h]
 ·rename_i h
  split <;> simp [h]
theorem cmpA_iff (a b : Arr) : cmpA a b < 0 ↔ ltA a b := by
 unfold cmpA ltA
 simp only [firstS, cmpI]
 rw [← cmpB_lt]
 generalize cmpB a.2.1 b.2.1 = q
 repeat' split
 all_goals omega
theorem ltOfA_T (a b : Arr) : Proofs.ltOf cmpA a b = true ↔ ltA a b := by
 unfold Proofs.ltOf; rw [decide_eq_true_iff, cmpA_iff]
theorem ltOfA_F {a b : Arr} : Proofs.ltOf cmpA a b = false ↔ ¬ ltA a b := by
 rw [← ltOfA_T, Bool.not_eq_true]
theorem swoA : Sort.SWO (Proofs.ltOf cmpA) where
 irrefl x := ltOfA_F.2 (ltA_irrefl x)
 trans x y z h1 h2 := (ltOfA_T x z).2 (ltA_trans ((ltOfA_T x y).1 h1) ((ltOfA_T y z).1 h2))
 ntrans x y z h1 h2 := ltOfA_F.2 (ltA_ntrans (ltOfA_F.1 h1) (ltOfA_F.1 h2))
def cCmpA : Con := { args := [aA, aA], ress := [I], owns := [], pre := fun _ => [], spec := fun (a, b, _) => (cmpA a b, ()) }
theorem vc150 : ∀ (a b : Arr), wpF Tryz.prog G62 (na ()) Tryz.f150 cCmpA (a, b, ()) = (2 ≤ 1000000 ∧ firstS [cmpI a.1 b.1, cmpB a.2.1 b.2.1] = cmpA a b) := by
 intros
 kernel_rfl
theorem wp150 (a b : Arr) : wpF Tryz.prog G62 (na ()) Tryz.f150 cCmpA (a, b, ()) := by
 refine (vc150 a b).mpr ?_
 exact ⟨by omega, rfl⟩
theorem ok150 [Sx.Dr] : Ok Tryz.prog 150 cCmpA := ok_of_wp mixed g62 (by kernel_rfl) (by kernel_rfl) na fun xx => wp150 xx.1 xx.2.1
abbrev G63 : Gam := (150, cCmpA) :: G62
theorem g63 [Sx.Dr] : GamOk Tryz.prog G63 := .cons ok150 g62
abbrev srtA (l : List Arr) : Prop := l.Pairwise ltA
abbrev keyNe (l : List Arr) : Prop := l.Pairwise fun a b => ¬ (a.1 = b.1 ∧ a.2.1 = b.2.1)
def insA (x : Arr) : List Arr → List Arr
 | [] => [x]
 | y :: r => if cmpA x y < 0 then x :: y :: r else y :: insA x r
def sortA : List Arr → List Arr
 | [] => []
 | x :: r => insA x (sortA r)
theorem insA_perm (x : Arr) : ∀ l, (insA x l).Perm (x :: l)
 | [] => .refl _
 | y :: r => by
  simp only [insA]
  split
  ·exact .refl _
  ·exact ((insA_perm x r).cons y).trans (.swap x y r)
theorem sortA_perm : ∀ l, (sortA l).Perm l
 | [] => .refl _
 | x :: r => (insA_perm x _).trans ((sortA_perm r).cons x)
theorem insA_sorted {x : Arr} : ∀ {l : List Arr}, srtA l → (∀ y ∈ l, ¬ (x.1 = y.1 ∧ x.2.1 = y.2.1)) → srtA (insA x l)
 | [], _, _ => by simp [insA]
 | y :: r, h, hne => by
  replace h := List.pairwise_cons.1 h
  simp only [insA]
  split
  ·rename_i hlt
   have hlt := (cmpA_iff x y).1 hlt
   refine List.pairwise_cons.2 ⟨fun z hz => ?_, List.pairwise_cons.2 h⟩
   rcases List.mem_cons.1 hz with rfl | hz
   ·exact hlt
   ·exact ltA_trans hlt (h.1 z hz)
  ·rename_i hlt
   have hlt : ¬ ltA x y := fun q => hlt ((cmpA_iff x y).2 q)
   refine List.pairwise_cons.2 ⟨fun z hz => ?_, insA_sorted h.2 fun z hz => hne z (by simp [hz])⟩
   rcases List.mem_cons.1 ((insA_perm x r).mem_iff.1 hz) with rfl | hz
   ·exact ltA_tri hlt fun q => hne y (by simp) ⟨q.1.symm, q.2.symm⟩
   ·exact h.1 z hz
theorem sortA_sorted : ∀ {l : List Arr}, keyNe l → srtA (sortA l)
 | [], _ => by simp [sortA]
 | x :: r, h => by
  replace h := List.pairwise_cons.1 h
  exact insA_sorted (sortA_sorted h.2) fun y hy => h.1 y ((sortA_perm r).mem_iff.1 hy)
theorem srtA_unique : ∀ {l l' : List Arr}, l.Perm l' → srtA l → srtA l' → l = l'
 | [], l', h, _, _ => by simpa using h
 | x :: r, [], h, _, _ => by simp at h
 | x :: r, y :: r', h, h1, h2 => by
  by_cases e : x = y
  ·subst e
   rw [srtA_unique h.cons_inv (List.pairwise_cons.1 h1).2 (List.pairwise_cons.1 h2).2]
  ·have m1 : x ∈ r' := by
    have := h.mem_iff.1 (show x ∈ x :: r by simp)
    rcases List.mem_cons.1 this with q | q
    ·exact absurd q e
    ·exact q
   have m2 : y ∈ r := by
    have := h.mem_iff.2 (show y ∈ y :: r' by simp)
    rcases List.mem_cons.1 this with q | q
    ·exact absurd q.symm e
    ·exact q
   exact absurd (ltA_trans ((List.pairwise_cons.1 h1).1 y m2) ((List.pairwise_cons.1 h2).1 x m1)) (ltA_irrefl _)
theorem keyNe_perm {l l' : List Arr} (h : l.Perm l') (hn : keyNe l) : keyNe l' := (List.Perm.pairwise_iff (R := fun a b : Arr => ¬ (a.1 = b.1 ∧ a.2.1 = b.2.1)) (fun q e => q ⟨e.1.symm, e.2.symm⟩) h).1 hn
theorem sorted_strict {l : List Arr} (hn : keyNe l) (h : l.Pairwise fun a b => ¬ ltA b a) : srtA l :=
 List.Pairwise.imp (fun {a b} q => ltA_tri q.2 q.1) (List.Pairwise.and hn h)
def encA (x : Arr) : List Value := [.int .i64 x.1, .string x.2.1, .int .i64 x.2.2]
theorem encA_rep (M : Nat → Prop) (w : World) (x : Arr) (cs : List Value) : Rep M w sArr x cs ↔ cs = encA x := by
 constructor
 ·rintro ⟨a, b, rfl, ha, c, d, rfl, hc, hd⟩
  have ha : a = [.int .i64 x.1] := ha
  have hc : c = [.string x.2.1] := hc
  have hd : d = [.int .i64 x.2.2] := hd
  subst ha; subst hc; subst hd; rfl
 ·rintro rfl
  exact ⟨_, _, rfl, rfl, _, _, rfl, rfl, rfl⟩
instance : Inhabited (Sch.T sArr) := ⟨(0, ⟨#[]⟩, 0)⟩
theorem cmp_callA [Sx.Dr] (w : World) (x y : Arr) (hG : Sx.Good Tryz.prog w) : Calls Tryz.prog 150 #[.agg (encA x).toArray, .agg (encA y).toArray] w fun e w' => e = .returned (.int .i64 (cmpA x y)) ∧ RowKit.Below w.heap.size w w' ∧ w.drawn ≤ w'.drawn := by
 have h := (@ok150 .on).2.2.2 rfl (x, y, ()) (fun _ => False) (fun _ => False) w [.agg (encA x).toArray, .agg (encA y).toArray] (fun b hb => by rcases hb with hb | hb <;> exact hb.elim) hG.on trivial ⟨_, _, rfl, ⟨encA x, rfl, (encA_rep _ _ _ _).2 rfl⟩, _, _, rfl, ⟨encA y, rfl, (encA_rep _ _ _ _).2 rfl⟩, rfl⟩
 refine h.mono ?_
 rintro e w' ⟨M', vs, rfl, hb, _, _, hr⟩
 obtain ⟨v, vs', rfl, ⟨cs, rfl, hc⟩, hr⟩ := hr
 have hc : cs = [.int .i64 (cmpA x y)] := hc
 have hr : vs' = [] := hr
 subst hc; subst hr
 exact ⟨rfl, @Sx.Below.kit .on _ _ _ hb, hb.dr⟩
theorem sort149 (g cap : Nat) (d : Array Arr) (w : World) (hH : Sort.HoldsK encA 3 w g 0 d) (hg : g < w.heap.size) (hd : d.size < 4611686018427387904) (hc : Proofs.CmpLays Tryz.prog 150 #[] encA 3 cmpA g 0 d.size w) :
  Calls Tryz.prog 149 #[.slice (some ⟨g, 0, none⟩) d.size cap, .func (.func 150) #[] #[]] w fun e w' => e = .returned (.tuple #[]) ∧ ∃ d' n os, Sort.PermIn 0 d.size d d' ∧ Sort.SortedIn (Proofs.ltOf cmpA) 0 d.size d' ∧ w' = Proofs.sortWorldK encA 3 w g 0 n d' os := by
 have eg : ∀ args w, (callFunc 150 args).run Tryz.prog w = .ok (.enter 150 args) w := Proofs.enters_of Tryz.func150 (by kernel_rfl) rfl
 exact Proofs.AnyQ.slices_SortFunc Proofs.Tryz.sortA 3 Tryz.isAgg107 Tryz.sizeOf107 encA (fun _ => rfl) (fun x v hv => by simp [encA] at hv; rcases hv with rfl | rfl | rfl <;> rfl) cmpA swoA 150 #[] g 0 cap d w eg hc hH hg hd
theorem sort149_none (w : World) : Calls Tryz.prog 149 #[.slice none 0 0, .func (.func 150) #[] #[]] w fun e w' => e = .returned (.tuple #[]) ∧ w' = w :=
 Proofs.AnyF.slices_SortFunc_none Proofs.Tryz.sortA none 0 _ w
abbrev preA (l : List Arr) : Prop := keyNe l ∧ l.length ≤ 1000000
theorem sort_ok149 [Sx.Dr] : SortOk Tryz.prog 149 { T := 107, s := sArr, g := 150, pre := preA, f := sortA } :=
 sort_gen (s := sArr) (T := 107) (k := 3) encA (fun _ => rfl) rfl encA_rep cmpA _ _ sort149 sort149_none cmp_callA
  (fun xs ys hx hp hs => srtA_unique (hp.trans (show List.Perm xs (sortA xs) from (sortA_perm xs).symm)) (sorted_strict (keyNe_perm (List.Perm.symm hp) hx.1) (hs.imp fun h => ltOfA_F.1 h)) (sortA_sorted hx.1))
  (fun xs h => h.2)
def cSortA : Con := { args := [], ress := [], owns := [], pre := fun _ => [False], spec := fun _ => (), srt := some { T := 107, s := sArr, g := 150, pre := preA, f := sortA } }
theorem ok149 [Sx.Dr] : Ok Tryz.prog 149 cSortA := ⟨⟨Tryz.f149, by kernel_rfl, by kernel_rfl, by kernel_rfl⟩, fun z hz => (by cases hz; exact sort_ok149), fun F hF => (by cases hF), fun h => by cases h⟩
abbrev G64 : Gam := (149, cSortA) :: G63
theorem g64 [Sx.Dr] : GamOk Tryz.prog G64 := .cons ok149 g63
set_option pp.deepTerms true
set_option pp.maxSteps 1000000
set_option maxHeartbeats 20000000
abbrev AM : Type := List (Arr × Int)
def addM (m : AM) (k : Arr) (h : Int) : AM := mpSet sArr k ((mpGet sArr k m).getD 0 + h) m
def hitM (c : Cab) (m : AM) (w : Stp) : AM := if w.2.1 = 0 then addM m (w.1, sA, 0) w.2.2.2.2 else if w.2.1 = c.1.length then addM m (w.1, sB, 0) w.2.2.2.2 else m
def sumsM (c : Cab) (l : List Stp) : AM := l.foldl (hitM c) []
def rowA (p : Arr × Int) : Arr := (p.1.1, p.1.2.1, p.2)
def arrS (c : Cab) (f : Flt) (win : Int) : List Arr := sortA ((sumsM c (wavesS c f win)).map rowA)
def seenA (m : AM) (seen : List Nat) : List Arr := seen.map fun p => rowA (m.getD p ((0, ⟨#[]⟩, 0), 0))
def cArr : Con := { args := [aC, aF, aI], ress := [(false, .list 107 sArr)], owns := [], pre := fun (c, f, win, _) => [winS c f win = 0], spec := fun (c, f, win, _) => (arrS c f win, ()) }
abbrev annAr (c : Cab) (f : Flt) (win : Int) : Ann := { X := List Stp × List Stp, σ := fun p => ⟨14, [(0, .one (.fv 11)), (2, .one (.ptr 7 0)), (3, .one (.ptr 9 0)), (7, .one (.sl 13))], [(0, .imm 166 sPt c.1), (1, .imm 3 sI c.2.1), (2, .box 37 [.sl 0, .sl 1, .int .i64 c.2.2.1, .int .i64 c.2.2.2]), (4, .mp 107 true false sArr sI (sumsM c p.2)), (5, .box 248 [.sl 4]), (7, .box 37 [.sl 0, .sl 1, .int .i64 c.2.2.1, .int .i64 c.2.2.2]), (9, .box 3 [.int .i64 (f.2.2.1 + win)]), (11, .yld .ready), (12, .sus [(3, .one (.ptr 2 0)), (7, .one (.ptr 5 0))]), (13, .ownT 170 sStp p.1)]⟩, inv := fun p => (∀ w ∈ p.1, wvH c w) ∧ (∀ w ∈ p.2, wvH c w) ∧ fltV c f ∧ (0 ≤ win ∧ win ≤ 1000) ∧ p.2 ++ runS c (f.2.2.1 + win) p.1 = wavesS c f win ∧ p.2.length + wtL p.1 ≤ 4374, mu := fun p => wtL p.1 }
abbrev annAr3 (m : AM) : Nat → Option Ann := fun i => if i = 3 then some { X := List Nat, σ := fun seen => ⟨3, [(9, .one (.sl 2)), (56, .one (.sl 1))], [(1, .mpi 0 107 true false sArr sI m seen), (0, .mp 107 true false sArr sI m), (2, .own 107 sArr (seenA m seen))]⟩, inv := fun seen => seen.Nodup ∧ (∀ p ∈ seen, p < m.length), mu := fun seen => m.length - seen.length } else none
theorem keyA_eq {k k' : Arr} : keyEq sArr k k' = true ↔ k = k' := by
 constructor
 ·intro h
  simp only [keyEq, Bool.and_eq_true, beq_iff_eq] at h
  exact Prod.ext h.1 (Prod.ext (ba_ext h.2.1) h.2.2)
 ·rintro rfl
  simp [keyEq]
theorem keyA_refl (k : Arr) : keyEq sArr k k = true := keyA_eq.2 rfl
theorem mp_get_set (k : Arr) (u : Int) : ∀ m : AM, mpGet sArr k (mpSet sArr k u m) = some u
 | [] => by simp only [mpSet, mpGet, keyA_refl, if_true]
 | x :: r => by
  simp only [mpSet]
  split
  ·simp only [mpGet, keyA_refl, if_true]
  ·rename_i h
   simp only [mpGet]
   rw [if_neg h, mp_get_set k u r]
theorem mp_get_set0 (k : Arr) (m : AM) : SV.v false [SC.int .i64 ((mpGet sArr k (mpSet sArr k ((mpGet sArr k m).getD 0) m)).getD 0)] = SV.v false [SC.int .i64 ((mpGet sArr k m).getD 0)] := by
 rw [mp_get_set]; rfl
theorem mp_put_set (k : Arr) (u v : Int) : ∀ m : AM, mpPut v (mpSet sArr k u m) (mpIdx sArr k m) = mpSet sArr k v m
 | [] => rfl
 | x :: r => by
  simp only [mpSet, mpIdx]
  split
  ·rfl
  ·simp only [mpPut]; rw [mp_put_set k u v r]
theorem mp_idx_lt (k : Arr) (u : Int) : ∀ m : AM, mpIdx sArr k m < (mpSet sArr k u m).length
 | [] => by simp [mpIdx, mpSet]
 | x :: r => by
  have := mp_idx_lt k u r
  simp only [mpSet, mpIdx]
  split
  ·simp
  ·simp only [List.length_cons]; omega
theorem mp_set_len (k : Arr) (u : Int) : ∀ m : AM, (mpSet sArr k u m).length ≤ m.length + 1
 | [] => by simp [mpSet]
 | x :: r => by
  have := mp_set_len k u r
  simp only [mpSet]
  split
  ·simp
  ·simp only [List.length_cons]; omega
theorem mp_set_mem {k : Arr} {u : Int} {p : Arr × Int} : ∀ {m : AM}, p ∈ mpSet sArr k u m → p = (k, u) ∨ p ∈ m
 | [], h => by simpa [mpSet] using h
 | x :: r, h => by
  simp only [mpSet] at h
  split at h
  ·rcases List.mem_cons.1 h with h | h
   ·exact .inl h
   ·exact .inr (by simp [h])
  ·rcases List.mem_cons.1 h with h | h
   ·exact .inr (by simp [h])
   ·rcases mp_set_mem h with h | h
    ·exact .inl h
    ·exact .inr (by simp [h])
theorem mp_get_mem {k : Arr} : ∀ {m : AM} {v : Int}, mpGet sArr k m = some v → (k, v) ∈ m
 | [], v, h => by simp [mpGet] at h
 | x :: r, v, h => by
  simp only [mpGet] at h
  split at h
  ·rename_i e
   cases h
   rw [keyA_eq.1 e]; exact List.mem_cons_self
  ·exact List.mem_cons_of_mem _ (mp_get_mem h)
theorem mp_set_keys {k : Arr} {u : Int} : ∀ {m : AM}, (m.Pairwise fun a b => a.1 ≠ b.1) → (mpSet sArr k u m).Pairwise fun a b => a.1 ≠ b.1
 | [], _ => by simp [mpSet]
 | x :: r, h => by
  replace h := List.pairwise_cons.1 h
  simp only [mpSet]
  split
  ·rename_i e
   have e := keyA_eq.1 e
   refine List.pairwise_cons.2 ⟨fun p hp => ?_, h.2⟩
   rw [e]; exact h.1 p hp
  ·rename_i e
   refine List.pairwise_cons.2 ⟨fun p hp => ?_, mp_set_keys h.2⟩
   rcases mp_set_mem hp with rfl | hp
   ·exact fun q => e (keyA_eq.2 q.symm)
   ·exact h.1 p hp
def okM (m : AM) (n : Nat) : Prop := m.length ≤ n ∧ (∀ p ∈ m, -(17179869184 * (n : Int)) ≤ p.2 ∧ p.2 ≤ 17179869184 * n) ∧ (m.Pairwise fun a b => a.1 ≠ b.1) ∧ ∀ p ∈ m, p.1.2.2 = 0
theorem get_bd {m : AM} {n : Nat} (h : okM m n) (k : Arr) : -(17179869184 * (n : Int)) ≤ (mpGet sArr k m).getD 0 ∧ (mpGet sArr k m).getD 0 ≤ 17179869184 * n := by
 cases e : mpGet sArr k m with
 | none => simp only [Option.getD_none]; omega
 | some v => exact h.2.1 _ (mp_get_mem e)
theorem addM_ok {m : AM} {n : Nat} (h : okM m n) {k : Arr} (hk : k.2.2 = 0) {v : Int} (hv : -17179869184 ≤ v ∧ v ≤ 17179869184) : okM (addM m k v) (n + 1) := by
 have hg := get_bd h k
 obtain ⟨h1, h2, h3, h4⟩ := h
 unfold addM
 refine ⟨?_, fun p hp => ?_, mp_set_keys h3, fun p hp => ?_⟩
 ·have := mp_set_len k ((mpGet sArr k m).getD 0 + v) m; omega
 ·rcases mp_set_mem hp with rfl | hp
  ·simp only; omega
  ·have := h2 p hp; omega
 ·rcases mp_set_mem hp with rfl | hp
  ·exact hk
  ·exact h4 p hp
theorem okM_mono {m : AM} {n : Nat} (h : okM m n) : okM m (n + 1) := by
 obtain ⟨h1, h2, h3, h4⟩ := h
 exact ⟨by omega, fun p hp => by have := h2 p hp; omega, h3, h4⟩
theorem hitM_ok {c : Cab} {m : AM} {n : Nat} (h : okM m n) {w : Stp} (hw : -17179869184 ≤ w.2.2.2.2 ∧ w.2.2.2.2 ≤ 17179869184) : okM (hitM c m w) (n + 1) := by
 unfold hitM
 repeat' split
 ·exact addM_ok h rfl hw
 ·exact addM_ok h rfl hw
 ·exact okM_mono h
theorem sumsM_snoc (c : Cab) (l : List Stp) (w : Stp) : sumsM c (l ++ [w]) = hitM c (sumsM c l) w := by
 unfold sumsM; rw [List.foldl_append]; rfl
theorem fold_ok {c : Cab} : ∀ {l : List Stp} {m : AM} {n : Nat}, okM m n → (∀ w ∈ l, -17179869184 ≤ w.2.2.2.2 ∧ w.2.2.2.2 ≤ 17179869184) → okM (l.foldl (hitM c) m) (n + l.length)
 | [], _, _, h, _ => h
 | w :: r, m, n, h, hl => by
  have := fold_ok (c := c) (l := r) (hitM_ok (c := c) h (hl w (by simp))) fun x hx => hl x (by simp [hx])
  rw [show n + 1 + r.length = n + (w :: r).length by simp only [List.length_cons]; omega] at this
  exact this
theorem sumsM_ok {c : Cab} {l : List Stp} (h : ∀ w ∈ l, wvH c w) : okM (sumsM c l) l.length := by
 have := fold_ok (c := c) (l := l) (m := []) (n := 0) ⟨Nat.le_refl _, fun p hp => by simp at hp, .nil, fun p hp => by simp at hp⟩ fun w hw => by
  obtain ⟨a1, _, _, a4, a5⟩ := h w hw
  have := hbN_le (h := w.2.2.2.1.toNat) (by omega)
  omega
 rwa [Nat.zero_add] at this
theorem rowA_ne {m : AM} {n : Nat} (h : okM m n) : keyNe (m.map rowA) := by
 obtain ⟨_, _, h3, h4⟩ := h
 rw [keyNe, List.pairwise_map]
 refine List.Pairwise.imp_of_mem (fun {a b} ha hb q e => q ?_) h3
 have e1 := h4 a ha
 have e2 := h4 b hb
 exact Prod.ext e.1 (Prod.ext e.2 (by rw [e1, e2]))
theorem nodup_len : ∀ (n : Nat) {l : List Nat}, l.Nodup → (∀ p ∈ l, p < n) → l.length ≤ n
 | 0, [], _, _ => Nat.le_refl _
 | 0, p :: _, _, h => by have := h p (by simp); omega
 | n + 1, l, hn, h => by
  by_cases hm : n ∈ l
  ·have ih := nodup_len n (hn.erase n) fun p hp => by
    have := (hn.mem_erase_iff).1 hp
    have h2 := h p this.2
    have := this.1
    omega
   rw [List.length_erase_of_mem hm] at ih
   omega
  ·have ih := nodup_len n hn fun p hp => by
    have h2 := h p hp
    have : p ≠ n := by rintro rfl; exact hm hp
    omega
   omega
theorem seenA_perm {m : AM} {seen : List Nat} (h1 : seen.Nodup) (h2 : ∀ p ∈ seen, p < m.length) (h3 : ∀ p, p < m.length → p ∈ seen) : (seenA m seen).Perm (m.map rowA) := by
 have hp : seen.Perm (List.range m.length) := (List.perm_ext_iff_of_nodup h1 List.nodup_range).2 fun p => ⟨fun h => List.mem_range.2 (h2 p h), fun h => h3 p (List.mem_range.1 h)⟩
 have e : m.map rowA = (List.range m.length).map fun p => rowA (m.getD p ((0, ⟨#[]⟩, 0), 0)) := by
  apply List.ext_getElem?
  intro j
  rw [List.getElem?_map, List.getElem?_map]
  by_cases hj : j < m.length
  ·rw [List.getElem?_range hj, List.getElem?_eq_getElem hj]; simp [List.getD_eq_getElem?_getD, hj]
  ·rw [List.getElem?_eq_none (by omega), List.getElem?_eq_none (by simp; omega)]; rfl
 rw [e]
 exact hp.map _
def vc91_0 (c : Cab) (f : Flt) (win : Int) (x : List Stp × List Stp) := (List.getD x.1 (0 : Nat) ((0 : Int), (0 : Int), false, (0 : Int), (0 : Int)))
def vc91_1 (c : Cab) (f : Flt) (win : Int) := (Sch.prod (Sch.int IntKind.i64) (Sch.prod Sch.str (Sch.int IntKind.i64)))
def vc91_2 (c : Cab) (f : Flt) (win : Int) (p : Nat) (x : List Nat) (y : List Nat) := (sumsM c (wavesS c f win) = sumsM c (wavesS c f win) ∧ x ++ [p] = y ∧ sumsM c (wavesS c f win) = sumsM c (wavesS c f win) ∧ seenA (sumsM c (wavesS c f win)) x ++ [((List.getD (sumsM c (wavesS c f win)) (List.getLastD (x ++ [p]) (0 : Nat)) (((0 : Int), ByteArray.mk (Array.mk []), (0 : Int)), (0 : Int))).1.1, (List.getD (sumsM c (wavesS c f win)) (List.getLastD (x ++ [p]) (0 : Nat)) (((0 : Int), ByteArray.mk (Array.mk []), (0 : Int)), (0 : Int))).1.2.1, (List.getD (sumsM c (wavesS c f win)) (List.getLastD (x ++ [p]) (0 : Nat)) (((0 : Int), ByteArray.mk (Array.mk []), (0 : Int)), (0 : Int))).2)] = seenA (sumsM c (wavesS c f win)) y)
def vc91_3 (c : Cab) (f : Flt) (win : Int) (x : List Nat) (y : List Nat) := (sumsM c (wavesS c f win) = sumsM c (wavesS c f win) ∧ x = y ∧ sumsM c (wavesS c f win) = sumsM c (wavesS c f win) ∧ seenA (sumsM c (wavesS c f win)) x ++ [((List.getD (sumsM c (wavesS c f win)) (List.getLastD x (0 : Nat)) (((0 : Int), ByteArray.mk (Array.mk []), (0 : Int)), (0 : Int))).1.1, (List.getD (sumsM c (wavesS c f win)) (List.getLastD x (0 : Nat)) (((0 : Int), ByteArray.mk (Array.mk []), (0 : Int)), (0 : Int))).1.2.1, (List.getD (sumsM c (wavesS c f win)) (List.getLastD x (0 : Nat)) (((0 : Int), ByteArray.mk (Array.mk []), (0 : Int)), (0 : Int))).2)] = seenA (sumsM c (wavesS c f win)) y)
def vc91_4 (c : Cab) (f : Flt) (win : Int) (x : List Stp × List Stp) := ((vc91_0 c f win x).1, ByteArray.mk (Array.mk [(65 : UInt8)]), (0 : Int))
def vc91_5 (c : Cab) (f : Flt) (win : Int) (x : List Stp × List Stp) := ((vc91_0 c f win x).1, ByteArray.mk (Array.mk [(66 : UInt8)]), (0 : Int))
def vc91_6 (c : Cab) (f : Flt) (win : Int) (x : List Stp × List Stp) := ((vc91_0 c f win x).1, (vc91_0 c f win x).2.1, (vc91_0 c f win x).2.2.1, (vc91_0 c f win x).2.2.2.1, (vc91_0 c f win x).2.2.2.2)
def vc91_7 (c : Cab) (f : Flt) (win : Int) (x : List Stp × List Stp) := (mpSet (vc91_1 c f win) (vc91_4 c f win x) (Option.getD (mpGet (vc91_1 c f win) (vc91_4 c f win x) (sumsM c x.2)) (0 : Int)) (sumsM c x.2))
def vc91_8 (c : Cab) (f : Flt) (win : Int) (x : List Stp × List Stp) := (mpSet (vc91_1 c f win) (vc91_5 c f win x) (Option.getD (mpGet (vc91_1 c f win) (vc91_5 c f win x) (sumsM c x.2)) (0 : Int)) (sumsM c x.2))
def vc91_9 (c : Cab) (f : Flt) (win : Int) (p : Nat) (x : List Nat) := (sumsM c (wavesS c f win) = sumsM c (wavesS c f win) ∧ (x ++ [p] = [] → False) ∧ List.getLastD (x ++ [p]) (0 : Nat) < List.length (sumsM c (wavesS c f win)))
def vc91_10 (c : Cab) (f : Flt) (win : Int) (x : List Nat) := (sumsM c (wavesS c f win) = sumsM c (wavesS c f win) ∧ (x = [] → False) ∧ List.getLastD x (0 : Nat) < List.length (sumsM c (wavesS c f win)))
def vc91_11 (c : Cab) (f : Flt) (win : Int) (x : List Nat) := (false = false → preA (seenA (sumsM c (wavesS c f win)) x) ∧ true = true ∧ sortA (seenA (sumsM c (wavesS c f win)) x) = arrS c f win)
def vc91_12 (c : Cab) (f : Flt) (win : Int) (x : List Nat) := (true = false → preA (seenA (sumsM c (wavesS c f win)) x) ∧ true = true ∧ sortA (seenA (sumsM c (wavesS c f win)) x) = arrS c f win)
def vc91_13 (c : Cab) (f : Flt) (win : Int) := (c.1, c.2.1, c.2.2.1, c.2.2.2)
def vc91_14 (c : Cab) (f : Flt) (win : Int) (x : List Nat) := (List.length (seenA (sumsM c (wavesS c f win)) x) + (1 : Nat))
theorem vc91 : ∀ (c : Cab) (f : Flt) (win : Int), wpFG Tryz.prog G64 (annAr3 (sumsM c (wavesS c f win))) (fun (g : FuncId) (id : Nat) => if g = (142 : FuncId) then some (annAr c f win) else none) (Sx.look [(87, Tryz.f87), (142, Tryz.f142)]) Tryz.f91 cArr (c, f, win, ()) = (winS c f win = 0 → ((∀ (k k' : Int × ByteArray × Int), some (k.1 == k'.1 && (ByteArray.toList k.2.1 == ByteArray.toList k'.2.1 && (k.2.2 == k'.2.2 && true))) = some (match decide (k.1 = k'.1) with | false => false | true => match List.beq (ByteArray.toList k.2.1) (ByteArray.toList k'.2.1) with | false => false | true => decide (k.2.2 = k'.2.2))) ∧ ∀ (k : Int × ByteArray × Int), true = true) ∧ (I64 (f.2.2.1 + win)) ∧ ((-9223372036854775808) ≤ f.2.2.2 * 262144 ∧ f.2.2.2 * (262144 : Int) ≤ 9223372036854775807) ∧ ((0 ≤ f.1 ∧ f.1 < (↑(List.length c.1) : Int)) ∧ (0 ≤ f.1 ∧ f.1 < (↑(List.length c.1) : Int)) ∧ I64 ((List.getD c.1 (Int.toNat f.1) (0, 0)).2 - f.2.1)) ∧ ((I64 (f.2.2.1 + f.2.1)) ∧ (I64 (f.2.2.1 + ((List.getD c.1 (Int.toNat f.1) (0, 0)).2 - f.2.1))) ∧ (-9223372036854775808) ≤ f.1 + 1 ∧ f.1 + (1 : Int) ≤ 9223372036854775807) ∧ ∃ (x : List (Int × Int × Bool × Int × Int) × List (Int × Int × Bool × Int × Int)), (c.1 = c.1 ∧ c.2.1 = c.2.1 ∧ c.2.2.1 = c.2.2.1 ∧ c.2.2.2 = c.2.2.2 ∧ [] = sumsM c x.2 ∧ c.2.2.1 = c.2.2.1 ∧ c.2.2.2 = c.2.2.2 ∧ f.2.2.1 + win = f.2.2.1 + win ∧ [(f.2.2.1 + f.2.1, f.1, false, 0, f.2.2.2 * 262144), (f.2.2.1 + ((List.getD c.1 (Int.toNat f.1) (0, 0)).2 - f.2.1), f.1 + 1, true, 0, f.2.2.2 * 262144)] = x.1) ∧ ((∀ (w : Stp), w ∈ x.1 → wvH c w) ∧ (∀ (w : Stp), w ∈ x.2 → wvH c w) ∧ fltV c f ∧ (0 ≤ win ∧ win ≤ 1000) ∧ x.2 ++ runS c (f.2.2.1 + win) x.1 = wavesS c f win ∧ List.length x.2 + wtL x.1 ≤ 4374) ∧ ∀ (x : List Stp × List Stp), (∀ (w : Stp), w ∈ x.1 → wvH c w) ∧ (∀ (w : Stp), w ∈ x.2 → wvH c w) ∧ fltV c f ∧ (0 ≤ win ∧ win ≤ 1000) ∧ x.2 ++ runS c (f.2.2.1 + win) x.1 = wavesS c f win ∧ List.length x.2 + wtL x.1 ≤ 4374 → (decide (0 < (↑(List.length x.1) : Int)) = true → (((0 : Int) ≤ 0 ∧ 0 < (↑(List.length x.1) : Int)) ∧ (0 : Int) ≤ 0 ∧ 0 < (↑(List.length x.1) : Int)) ∧ ((0 : Int) ≤ 1 ∧ 1 ≤ (↑(List.length x.1) : Int)) ∧ (decide (f.2.2.1 + win < (vc91_0 c f win x).1) = true → ∃ (y : List (Int × Int × Bool × Int × Int) × List (Int × Int × Bool × Int × Int)), (c.1 = c.1 ∧ c.2.1 = c.2.1 ∧ c.2.2.1 = c.2.2.1 ∧ c.2.2.2 = c.2.2.2 ∧ sumsM c x.2 = sumsM c y.2 ∧ c.2.2.1 = c.2.2.1 ∧ c.2.2.2 = c.2.2.2 ∧ f.2.2.1 + win = f.2.2.1 + win ∧ List.drop 1 x.1 = y.1) ∧ ((∀ (w : Stp), w ∈ y.1 → wvH c w) ∧ (∀ (w : Stp), w ∈ y.2 → wvH c w) ∧ fltV c f ∧ (0 ≤ win ∧ win ≤ 1000) ∧ y.2 ++ runS c (f.2.2.1 + win) y.1 = wavesS c f win ∧ List.length y.2 + wtL y.1 ≤ 4374) ∧ wtL y.1 < wtL x.1) ∧ (decide (f.2.2.1 + win < (vc91_0 c f win x).1) = false → (((vc91_0 c f win x).2.1 == 0) = true → (SV.v false [SC.int IntKind.i64 (Option.getD (mpGet (vc91_1 c f win) (vc91_4 c f win x) (vc91_7 c f win x)) 0)] = SV.v false [SC.int IntKind.i64 (Option.getD (mpGet (vc91_1 c f win) (vc91_4 c f win x) (sumsM c x.2)) 0)] ∧ (I64 (Option.getD (mpGet (vc91_1 c f win) (vc91_4 c f win x) (sumsM c x.2)) 0 + (vc91_0 c f win x).2.2.2.2)) ∧ 0 ≤ (↑(mpIdx (vc91_1 c f win) (vc91_4 c f win x) (sumsM c x.2)) : Int) ∧ (↑(mpIdx (vc91_1 c f win) (vc91_4 c f win x) (sumsM c x.2)) : Int) < (↑(List.length (vc91_7 c f win x)) : Int)) ∧ (false = true → ∃ (x_1 : List Nat), (mpPut (Option.getD (mpGet (vc91_1 c f win) (vc91_4 c f win x) (sumsM c x.2)) 0 + (vc91_0 c f win x).2.2.2.2) (vc91_7 c f win x) (mpIdx (vc91_1 c f win) (vc91_4 c f win x) (sumsM c x.2)) = sumsM c (wavesS c f win) ∧ [] = x_1 ∧ mpPut (Option.getD (mpGet (vc91_1 c f win) (vc91_4 c f win x) (sumsM c x.2)) 0 + (vc91_0 c f win x).2.2.2.2) (vc91_7 c f win x) (mpIdx (vc91_1 c f win) (vc91_4 c f win x) (sumsM c x.2)) = sumsM c (wavesS c f win) ∧ List.length (seenA (sumsM c (wavesS c f win)) x_1) = 0) ∧ (List.Nodup x_1 ∧ ∀ (p : Nat), p ∈ x_1 → p < List.length (sumsM c (wavesS c f win))) ∧ ∀ (x : List Nat), (List.Nodup x ∧ ∀ (p : Nat), p ∈ x → p < List.length (sumsM c (wavesS c f win))) → sumsM c (wavesS c f win) = sumsM c (wavesS c f win) ∧ (∀ (p : Nat), p < List.length (sumsM c (wavesS c f win)) → (p ∈ x → False) → (true = true → (vc91_9 c f win p x) ∧ (vc91_14 c f win x) * 32 ≤ 140737488355328 ∧ ∃ (y : List Nat), (vc91_2 c f win p x y) ∧ (List.Nodup y ∧ ∀ (p : Nat), p ∈ y → p < List.length (sumsM c (wavesS c f win))) ∧ List.length (sumsM c (wavesS c f win)) - List.length y < List.length (sumsM c (wavesS c f win)) - List.length x) ∧ (vc91_12 c f win x)) ∧ ((∀ (p : Nat), p < List.length (sumsM c (wavesS c f win)) → p ∈ x) → (false = true → (vc91_10 c f win x) ∧ (vc91_14 c f win x) * 32 ≤ 140737488355328 ∧ ∃ (y : List Nat), (vc91_3 c f win x y) ∧ (List.Nodup y ∧ ∀ (p : Nat), p ∈ y → p < List.length (sumsM c (wavesS c f win))) ∧ List.length (sumsM c (wavesS c f win)) - List.length y < List.length (sumsM c (wavesS c f win)) - List.length x) ∧ (vc91_11 c f win x))) ∧ (false = false → (cabS (vc91_13 c f win) = 0 ∧ wvC (vc91_13 c f win) (vc91_6 c f win x)) ∧ (List.length (List.drop 1 x.1) + List.length (childS (vc91_13 c f win) (vc91_6 c f win x))) * 40 ≤ 140737488355328 ∧ ∃ (y : List (Int × Int × Bool × Int × Int) × List (Int × Int × Bool × Int × Int)), (c.1 = c.1 ∧ c.2.1 = c.2.1 ∧ c.2.2.1 = c.2.2.1 ∧ c.2.2.2 = c.2.2.2 ∧ mpPut (Option.getD (mpGet (vc91_1 c f win) (vc91_4 c f win x) (sumsM c x.2)) 0 + (vc91_0 c f win x).2.2.2.2) (vc91_7 c f win x) (mpIdx (vc91_1 c f win) (vc91_4 c f win x) (sumsM c x.2)) = sumsM c y.2 ∧ c.2.2.1 = c.2.2.1 ∧ c.2.2.2 = c.2.2.2 ∧ f.2.2.1 + win = f.2.2.1 + win ∧ List.drop 1 x.1 ++ childS (vc91_13 c f win) (vc91_6 c f win x) = y.1) ∧ ((∀ (w : Stp), w ∈ y.1 → wvH c w) ∧ (∀ (w : Stp), w ∈ y.2 → wvH c w) ∧ fltV c f ∧ (0 ≤ win ∧ win ≤ 1000) ∧ y.2 ++ runS c (f.2.2.1 + win) y.1 = wavesS c f win ∧ List.length y.2 + wtL y.1 ≤ 4374) ∧ wtL y.1 < wtL x.1)) ∧ (((vc91_0 c f win x).2.1 == 0) = false → (((vc91_0 c f win x).2.1 == (↑(List.length c.1) : Int)) = true → (SV.v false [SC.int IntKind.i64 (Option.getD (mpGet (vc91_1 c f win) (vc91_5 c f win x) (vc91_8 c f win x)) 0)] = SV.v false [SC.int IntKind.i64 (Option.getD (mpGet (vc91_1 c f win) (vc91_5 c f win x) (sumsM c x.2)) 0)] ∧ (I64 (Option.getD (mpGet (vc91_1 c f win) (vc91_5 c f win x) (sumsM c x.2)) 0 + (vc91_0 c f win x).2.2.2.2)) ∧ 0 ≤ (↑(mpIdx (vc91_1 c f win) (vc91_5 c f win x) (sumsM c x.2)) : Int) ∧ (↑(mpIdx (vc91_1 c f win) (vc91_5 c f win x) (sumsM c x.2)) : Int) < (↑(List.length (vc91_8 c f win x)) : Int)) ∧ (false = true → ∃ (x_1 : List Nat), (mpPut (Option.getD (mpGet (vc91_1 c f win) (vc91_5 c f win x) (sumsM c x.2)) 0 + (vc91_0 c f win x).2.2.2.2) (vc91_8 c f win x) (mpIdx (vc91_1 c f win) (vc91_5 c f win x) (sumsM c x.2)) = sumsM c (wavesS c f win) ∧ [] = x_1 ∧ mpPut (Option.getD (mpGet (vc91_1 c f win) (vc91_5 c f win x) (sumsM c x.2)) 0 + (vc91_0 c f win x).2.2.2.2) (vc91_8 c f win x) (mpIdx (vc91_1 c f win) (vc91_5 c f win x) (sumsM c x.2)) = sumsM c (wavesS c f win) ∧ List.length (seenA (sumsM c (wavesS c f win)) x_1) = 0) ∧ (List.Nodup x_1 ∧ ∀ (p : Nat), p ∈ x_1 → p < List.length (sumsM c (wavesS c f win))) ∧ ∀ (x : List Nat), (List.Nodup x ∧ ∀ (p : Nat), p ∈ x → p < List.length (sumsM c (wavesS c f win))) → sumsM c (wavesS c f win) = sumsM c (wavesS c f win) ∧ (∀ (p : Nat), p < List.length (sumsM c (wavesS c f win)) → (p ∈ x → False) → (true = true → (vc91_9 c f win p x) ∧ (vc91_14 c f win x) * 32 ≤ 140737488355328 ∧ ∃ (y : List Nat), (vc91_2 c f win p x y) ∧ (List.Nodup y ∧ ∀ (p : Nat), p ∈ y → p < List.length (sumsM c (wavesS c f win))) ∧ List.length (sumsM c (wavesS c f win)) - List.length y < List.length (sumsM c (wavesS c f win)) - List.length x) ∧ (vc91_12 c f win x)) ∧ ((∀ (p : Nat), p < List.length (sumsM c (wavesS c f win)) → p ∈ x) → (false = true → (vc91_10 c f win x) ∧ (vc91_14 c f win x) * 32 ≤ 140737488355328 ∧ ∃ (y : List Nat), (vc91_3 c f win x y) ∧ (List.Nodup y ∧ ∀ (p : Nat), p ∈ y → p < List.length (sumsM c (wavesS c f win))) ∧ List.length (sumsM c (wavesS c f win)) - List.length y < List.length (sumsM c (wavesS c f win)) - List.length x) ∧ (vc91_11 c f win x))) ∧ (false = false → (cabS (vc91_13 c f win) = 0 ∧ wvC (vc91_13 c f win) (vc91_6 c f win x)) ∧ (List.length (List.drop 1 x.1) + List.length (childS (vc91_13 c f win) (vc91_6 c f win x))) * 40 ≤ 140737488355328 ∧ ∃ (y : List (Int × Int × Bool × Int × Int) × List (Int × Int × Bool × Int × Int)), (c.1 = c.1 ∧ c.2.1 = c.2.1 ∧ c.2.2.1 = c.2.2.1 ∧ c.2.2.2 = c.2.2.2 ∧ mpPut (Option.getD (mpGet (vc91_1 c f win) (vc91_5 c f win x) (sumsM c x.2)) 0 + (vc91_0 c f win x).2.2.2.2) (vc91_8 c f win x) (mpIdx (vc91_1 c f win) (vc91_5 c f win x) (sumsM c x.2)) = sumsM c y.2 ∧ c.2.2.1 = c.2.2.1 ∧ c.2.2.2 = c.2.2.2 ∧ f.2.2.1 + win = f.2.2.1 + win ∧ List.drop 1 x.1 ++ childS (vc91_13 c f win) (vc91_6 c f win x) = y.1) ∧ ((∀ (w : Stp), w ∈ y.1 → wvH c w) ∧ (∀ (w : Stp), w ∈ y.2 → wvH c w) ∧ fltV c f ∧ (0 ≤ win ∧ win ≤ 1000) ∧ y.2 ++ runS c (f.2.2.1 + win) y.1 = wavesS c f win ∧ List.length y.2 + wtL y.1 ≤ 4374) ∧ wtL y.1 < wtL x.1)) ∧ (((vc91_0 c f win x).2.1 == (↑(List.length c.1) : Int)) = false → (false = true → ∃ (x_1 : List Nat), (sumsM c x.2 = sumsM c (wavesS c f win) ∧ [] = x_1 ∧ sumsM c x.2 = sumsM c (wavesS c f win) ∧ List.length (seenA (sumsM c (wavesS c f win)) x_1) = 0) ∧ (List.Nodup x_1 ∧ ∀ (p : Nat), p ∈ x_1 → p < List.length (sumsM c (wavesS c f win))) ∧ ∀ (x : List Nat), (List.Nodup x ∧ ∀ (p : Nat), p ∈ x → p < List.length (sumsM c (wavesS c f win))) → sumsM c (wavesS c f win) = sumsM c (wavesS c f win) ∧ (∀ (p : Nat), p < List.length (sumsM c (wavesS c f win)) → (p ∈ x → False) → (true = true → (vc91_9 c f win p x) ∧ (vc91_14 c f win x) * 32 ≤ 140737488355328 ∧ ∃ (y : List Nat), (vc91_2 c f win p x y) ∧ (List.Nodup y ∧ ∀ (p : Nat), p ∈ y → p < List.length (sumsM c (wavesS c f win))) ∧ List.length (sumsM c (wavesS c f win)) - List.length y < List.length (sumsM c (wavesS c f win)) - List.length x) ∧ (vc91_12 c f win x)) ∧ ((∀ (p : Nat), p < List.length (sumsM c (wavesS c f win)) → p ∈ x) → (false = true → (vc91_10 c f win x) ∧ (vc91_14 c f win x) * 32 ≤ 140737488355328 ∧ ∃ (y : List Nat), (vc91_3 c f win x y) ∧ (List.Nodup y ∧ ∀ (p : Nat), p ∈ y → p < List.length (sumsM c (wavesS c f win))) ∧ List.length (sumsM c (wavesS c f win)) - List.length y < List.length (sumsM c (wavesS c f win)) - List.length x) ∧ (vc91_11 c f win x))) ∧ (false = false → (cabS (vc91_13 c f win) = 0 ∧ wvC (vc91_13 c f win) (vc91_6 c f win x)) ∧ (List.length (List.drop 1 x.1) + List.length (childS (vc91_13 c f win) (vc91_6 c f win x))) * 40 ≤ 140737488355328 ∧ ∃ (y : List (Int × Int × Bool × Int × Int) × List (Int × Int × Bool × Int × Int)), (c.1 = c.1 ∧ c.2.1 = c.2.1 ∧ c.2.2.1 = c.2.2.1 ∧ c.2.2.2 = c.2.2.2 ∧ sumsM c x.2 = sumsM c y.2 ∧ c.2.2.1 = c.2.2.1 ∧ c.2.2.2 = c.2.2.2 ∧ f.2.2.1 + win = f.2.2.1 + win ∧ List.drop 1 x.1 ++ childS (vc91_13 c f win) (vc91_6 c f win x) = y.1) ∧ ((∀ (w : Stp), w ∈ y.1 → wvH c w) ∧ (∀ (w : Stp), w ∈ y.2 → wvH c w) ∧ fltV c f ∧ (0 ≤ win ∧ win ≤ 1000) ∧ y.2 ++ runS c (f.2.2.1 + win) y.1 = wavesS c f win ∧ List.length y.2 + wtL y.1 ≤ 4374) ∧ wtL y.1 < wtL x.1))))) ∧ (decide (0 < (↑(List.length x.1) : Int)) = false → ∃ (x_1 : List Nat), (sumsM c x.2 = sumsM c (wavesS c f win) ∧ [] = x_1 ∧ sumsM c x.2 = sumsM c (wavesS c f win) ∧ List.length (seenA (sumsM c (wavesS c f win)) x_1) = 0) ∧ (List.Nodup x_1 ∧ ∀ (p : Nat), p ∈ x_1 → p < List.length (sumsM c (wavesS c f win))) ∧ ∀ (x : List Nat), (List.Nodup x ∧ ∀ (p : Nat), p ∈ x → p < List.length (sumsM c (wavesS c f win))) → sumsM c (wavesS c f win) = sumsM c (wavesS c f win) ∧ (∀ (p : Nat), p < List.length (sumsM c (wavesS c f win)) → (p ∈ x → False) → (true = true → (vc91_9 c f win p x) ∧ (vc91_14 c f win x) * 32 ≤ 140737488355328 ∧ ∃ (y : List Nat), (vc91_2 c f win p x y) ∧ (List.Nodup y ∧ ∀ (p : Nat), p ∈ y → p < List.length (sumsM c (wavesS c f win))) ∧ List.length (sumsM c (wavesS c f win)) - List.length y < List.length (sumsM c (wavesS c f win)) - List.length x) ∧ (vc91_12 c f win x)) ∧ ((∀ (p : Nat), p < List.length (sumsM c (wavesS c f win)) → p ∈ x) → (false = true → (vc91_10 c f win x) ∧ (vc91_14 c f win x) * 32 ≤ 140737488355328 ∧ ∃ (y : List Nat), (vc91_3 c f win x y) ∧ (List.Nodup y ∧ ∀ (p : Nat), p ∈ y → p < List.length (sumsM c (wavesS c f win))) ∧ List.length (sumsM c (wavesS c f win)) - List.length y < List.length (sumsM c (wavesS c f win)) - List.length x) ∧ (vc91_11 c f win x)))) := by
 intros
 kernel_rfl
theorem wp91 (c : Cab) (f : Flt) (win : Int) : wpFG Tryz.prog G64 (annAr3 (sumsM c (wavesS c f win))) (fun g id => if g = 142 then some (annAr c f win) else none) (Sx.look ([(87, Tryz.f87), (142, Tryz.f142)] : List (Nat × Func))) Tryz.f91 cArr (c, f, win, ()) := by
 refine (vc91 c f win).mpr ?_
 delta vc91_0 vc91_1 vc91_2 vc91_3 vc91_4 vc91_5 vc91_6 vc91_7 vc91_8 vc91_9 vc91_10 vc91_11 vc91_12 vc91_13 vc91_14
 delta I64
 intro h1
 obtain ⟨ef, hw⟩ := winS_V h1
 obtain ⟨hc, hfv⟩ := fltS_V ef
 have hv := hfv.1
 obtain ⟨_, g1, g2, g3, g4, g5⟩ := id hfv
 have b := hv.2.2.1 _ (getD_mem (d := (0, 0)) (l := c.1) (k := f.1.toNat) (by omega))
 have hi := initS_H hfv
 have hlen := hv.2.1
 refine ⟨⟨fun k k' => (by simp only [Bool.and_true]; rfl), fun _ => rfl⟩, by omega, by omega, ⟨g1, g1, by omega⟩, ⟨by omega, by omega, by omega⟩, (initS c f, []), ⟨rfl, rfl, rfl, rfl, rfl, rfl, rfl, rfl, rfl⟩, ⟨hi, fun w hw => (by simp at hw), hfv, hw, rfl, by show 0 + wtL (initS c f) ≤ 4374; rw [initS_wt]; omega⟩, fun p hp => ?_⟩
 obtain ⟨o, out⟩ := p
 obtain ⟨p1, p0, _, _, p2, p3⟩ := hp
 replace p2 : out ++ runS c (f.2.2.1 + win) o = wavesS c f win := p2
 replace p3 : out.length + wtL o ≤ 4374 := p3
 replace p0 : ∀ w ∈ out, wvH c w := p0
 have hm := sumsM_ok p0
 cases o with
 | nil =>
  refine ⟨fun h1 => by simp at h1, fun h1 => ?_⟩
  have p2 : out = wavesS c f win := by rw [← p2]; exact (List.append_nil out).symm
  have hm : okM (sumsM c (wavesS c f win)) out.length := by rw [← p2]; exact hm
  have p3 : out.length ≤ 4374 := by omega
  have eA : arrS c f win = sortA ((sumsM c (wavesS c f win)).map rowA) := rfl
  refine ⟨[], ⟨by rw [← p2], rfl, by rw [← p2], rfl⟩, ⟨List.nodup_nil, fun p hp => by simp at hp⟩, ?_⟩
  rw [eA]
  generalize sumsM c (wavesS c f win) = m at hm ⊢
  intro seen hs
  have hls := nodup_len m.length hs.1 hs.2
  have hlm := hm.1
  have hl2 : (seenA m seen).length = seen.length := by simp [seenA]
  refine ⟨rfl, fun p hp hps => ⟨fun _ => ?_, fun h => (by cases h)⟩, fun hall => ⟨fun h => (by cases h), fun _ => ?_⟩⟩
  ·have hl : (seen ++ [p]).getLastD 0 = p := by simp [List.getLastD_eq_getLast?]
   have hn : (seen ++ [p]).Nodup := List.nodup_append.2 ⟨hs.1, by simp, fun x hx y hy => by
    have : y = p := by simpa using hy
    subst this
    rintro rfl
    exact hps hx⟩
   have ha : ∀ q ∈ seen ++ [p], q < m.length := fun q hq => by
    rcases List.mem_append.1 hq with hq | hq
    ·exact hs.2 q hq
    ·have : q = p := by simpa using hq
     subst this; exact hp
   have hlen2 := nodup_len _ hn ha
   rw [List.length_append] at hlen2
   have hlen2 : seen.length + 1 ≤ m.length := hlen2
   rw [hl, hl2]
   refine ⟨⟨rfl, by simp, hp⟩, by omega, seen ++ [p], ⟨rfl, rfl, rfl, ?_⟩, ⟨hn, ha⟩, by rw [List.length_append]; simp; omega⟩
   simp only [seenA, List.map_append, List.map_cons, List.map_nil]
   rfl
  ·have hp := seenA_perm hs.1 hs.2 hall
   have hk := rowA_ne hm
   refine ⟨⟨keyNe_perm hp.symm hk, by omega⟩, rfl, ?_⟩
   exact srtA_unique ((sortA_perm _).trans (hp.trans (sortA_perm _).symm)) (sortA_sorted (keyNe_perm hp.symm hk)) (sortA_sorted hk)
 | cons w r =>
  have hw' : wvH c w := p1 w (by simp)
  have hr := runS_cons (last := f.2.2.1 + win) hv p1
  have hc' := child_wt (c := c) hw'.1
  have hp := wt_pos w
  have hl1 := len_wt r
  have hl2 := child_len c w
  simp only [wtL] at p3
  rw [hr] at p2
  refine ⟨fun h1 => ?_, fun h1 => by simp at h1⟩
  have l1 : 0 < ((w :: r).length : Int) := by simp only [List.length_cons]; omega
  refine ⟨⟨⟨by omega, l1⟩, by omega, l1⟩, ⟨by omega, l1⟩, fun h2 => ?_, fun h2 => ?_⟩
  ·have h2 : f.2.2.1 + win < w.1 := of_decide_eq_true h2
   rw [if_pos h2] at p2
   refine ⟨(r, out), ⟨rfl, rfl, rfl, rfl, rfl, rfl, rfl, rfl, rfl⟩, ⟨fun x hx => p1 x (by simp [hx]), p0, hfv, hw, p2, ?_⟩, ?_⟩
   ·show out.length + wtL r ≤ 4374
    omega
   ·show wtL r < wtL (w :: r)
    simp only [wtL]; omega
  ·have h2 : ¬ f.2.2.1 + win < w.1 := of_decide_eq_false h2
   rw [if_neg h2] at p2
   have f1 : (r.length + (childS c w).length) * 40 ≤ 140737488355328 := by omega
   have f2 : (out ++ [w]) ++ runS c (f.2.2.1 + win) (r ++ childS c w) = wavesS c f win := by rw [List.append_assoc]; exact p2
   have f3 : (out ++ [w]).length + wtL (r ++ childS c w) ≤ 4374 := by rw [wtL_append, List.length_append, List.length_singleton]; omega
   have f4 : wtL (r ++ childS c w) < wtL (w :: r) := by rw [wtL_append]; simp only [wtL]; omega
   have f5 : ∀ x ∈ out ++ [w], wvH c x := fun x hx => by
    rcases List.mem_append.1 hx with hx | hx
    ·exact p0 x hx
    ·simp only [List.mem_singleton] at hx; rw [hx]; exact hw'
   have hB : -17179869184 ≤ w.2.2.2.2 ∧ w.2.2.2.2 ≤ 17179869184 := by
    obtain ⟨a1, _, _, a4, a5⟩ := hw'
    have := hbN_le (h := w.2.2.2.1.toNat) (by omega)
    omega
   refine ⟨fun e0 => ?_, fun e0 => ⟨fun e1 => ?_, fun e1 => ?_⟩⟩
   ·have e0 : w.2.1 = 0 := eq_of_beq e0
    have hg := get_bd hm (w.1, sA, 0)
    refine ⟨⟨?_, ?_, Int.natCast_nonneg _, Int.ofNat_lt.2 (mp_idx_lt (w.1, sA, 0) _ _)⟩, fun h => (by cases h), fun _ => ⟨⟨hc, wvH_C hv hw'⟩, f1, (r ++ childS c w, out ++ [w]), ⟨rfl, rfl, rfl, rfl, ?_, rfl, rfl, rfl, rfl⟩, ⟨app_H hv p1, f5, hfv, hw, f2, f3⟩, f4⟩⟩
    ·exact mp_get_set0 (w.1, sA, 0) _
    ·show -9223372036854775808 ≤ (mpGet sArr (w.1, sA, 0) (sumsM c out)).getD 0 + w.2.2.2.2 ∧ (mpGet sArr (w.1, sA, 0) (sumsM c out)).getD 0 + w.2.2.2.2 ≤ 9223372036854775807
     omega
    ·rw [sumsM_snoc]
     unfold hitM addM
     rw [if_pos e0]
     exact mp_put_set (w.1, sA, 0) _ _ _
   ·have e0 : ¬ w.2.1 = 0 := by
     have e0 : (w.2.1 == 0) = false := e0
     simpa using e0
    have e1 : w.2.1 = c.1.length := eq_of_beq e1
    have hg := get_bd hm (w.1, sB, 0)
    refine ⟨⟨?_, ?_, Int.natCast_nonneg _, Int.ofNat_lt.2 (mp_idx_lt (w.1, sB, 0) _ _)⟩, fun h => (by cases h), fun _ => ⟨⟨hc, wvH_C hv hw'⟩, f1, (r ++ childS c w, out ++ [w]), ⟨rfl, rfl, rfl, rfl, ?_, rfl, rfl, rfl, rfl⟩, ⟨app_H hv p1, f5, hfv, hw, f2, f3⟩, f4⟩⟩
    ·exact mp_get_set0 (w.1, sB, 0) _
    ·show -9223372036854775808 ≤ (mpGet sArr (w.1, sB, 0) (sumsM c out)).getD 0 + w.2.2.2.2 ∧ (mpGet sArr (w.1, sB, 0) (sumsM c out)).getD 0 + w.2.2.2.2 ≤ 9223372036854775807
     omega
    ·rw [sumsM_snoc]
     unfold hitM addM
     rw [if_neg e0, if_pos e1]
     exact mp_put_set (w.1, sB, 0) _ _ _
   ·have e0 : ¬ w.2.1 = 0 := by
     have e0 : (w.2.1 == 0) = false := e0
     simpa using e0
    have e1 : ¬ w.2.1 = c.1.length := by
     have e1 : (w.2.1 == (c.1.length : Int)) = false := e1
     simpa using e1
    refine ⟨fun h => (by cases h), fun _ => ⟨⟨hc, wvH_C hv hw'⟩, f1, (r ++ childS c w, out ++ [w]), ⟨rfl, rfl, rfl, rfl, ?_, rfl, rfl, rfl, rfl⟩, ⟨app_H hv p1, f5, hfv, hw, f2, f3⟩, f4⟩⟩
    rw [sumsM_snoc]
    unfold hitM
    rw [if_neg e0, if_neg e1]
theorem ok91 [Sx.Dr] : Ok Tryz.prog 91 cArr := ok_of_wpG mixed g64 (by kernel_rfl) (by kernel_rfl) (lib_ok (List.forall_mem_cons.2 ⟨by kernel_rfl, List.forall_mem_cons.2 ⟨by kernel_rfl, by simp⟩⟩)) (fun xx => annAr3 (sumsM xx.1 (wavesS xx.1 xx.2.1 xx.2.2.1))) (fun xx => fun g id => if g = 142 then some (annAr xx.1 xx.2.1 xx.2.2.1) else none) fun xx => wp91 xx.1 xx.2.1 xx.2.2.1
abbrev G65 : Gam := (91, cArr) :: G64
theorem g65 [Sx.Dr] : GamOk Tryz.prog G65 := .cons ok91 g64
def arrP (c : Cab) (f : Flt) (win : Int) : List Arr := if winS c f win = 0 then arrS c f win else []
def cArrivals : Con := { args := [aC, aF, aI], ress := [(false, .list 107 sArr), I], owns := [], pre := fun (c, f, win, _) => [c.1.length ≤ 1000000, c.2.1.length ≤ 1000000], spec := fun (c, f, win, _) => (arrP c f win, winS c f win, ()) }
theorem vc21 : ∀ (c : Cab) (f : Flt) (win : Int), wpF Tryz.prog G65 (na ()) Tryz.f21 cArrivals (c, f, win, ()) = (List.length c.1 ≤ 1000000 → List.length c.2.1 ≤ 1000000 → (List.length c.1 ≤ 1000000 ∧ List.length c.2.1 ≤ 1000000) ∧ ((winS (c.1, c.2.1, c.2.2.1, c.2.2.2) (f.1, f.2.1, f.2.2.1, f.2.2.2) win != 0) = true → [] = arrP c f win ∧ winS (c.1, c.2.1, c.2.2.1, c.2.2.2) (f.1, f.2.1, f.2.2.1, f.2.2.2) win = winS c f win) ∧ ((winS (c.1, c.2.1, c.2.2.1, c.2.2.2) (f.1, f.2.1, f.2.2.1, f.2.2.2) win != 0) = false → winS (c.1, c.2.1, c.2.2.1, c.2.2.2) (f.1, f.2.1, f.2.2.1, f.2.2.2) win = 0 ∧ arrS (c.1, c.2.1, c.2.2.1, c.2.2.2) (f.1, f.2.1, f.2.2.1, f.2.2.2) win = arrP c f win ∧ 0 = winS c f win)) := by
 intros
 kernel_rfl
theorem wp21 (c : Cab) (f : Flt) (win : Int) : wpF Tryz.prog G65 (na ()) Tryz.f21 cArrivals (c, f, win, ()) := by
 refine (vc21 c f win).mpr ?_
 intro h1 h2
 refine ⟨⟨h1, h2⟩, fun e => ?_, fun e => ?_⟩
 ·have e : ¬ winS c f win = 0 := bne_zero.1 e
  unfold arrP; rw [if_neg e]; exact ⟨rfl, rfl⟩
 ·have e : winS c f win = 0 := bne_zero'.1 e
  unfold arrP; rw [if_pos e]; exact ⟨e, rfl, e.symm⟩
theorem ok21 [Sx.Dr] : Ok Tryz.prog 21 cArrivals := ok_of_wp mixed g65 (by kernel_rfl) (by kernel_rfl) na fun xx => wp21 xx.1 xx.2.1 xx.2.2.1
abbrev G66 : Gam := (21, cArrivals) :: G65
theorem g66 [Sx.Dr] : GamOk Tryz.prog G66 := .cons ok21 g65
set_option maxHeartbeats 20000000
set_option pp.deepTerms true
set_option pp.maxSteps 1000000
def endW (w : Stp) : ByteArray := if w.2.1 = 0 then sA else sB
abbrev dA : Arr := (0, ⟨⟨[]⟩⟩, 0)
theorem wvH_ht {c : Cab} {w : Stp} (h : wvH c w) : -17179869184 ≤ w.2.2.2.2 ∧ w.2.2.2.2 ≤ 17179869184 := by
 obtain ⟨a1, _, _, a4, a5⟩ := h
 have := hbN_le (h := w.2.2.2.1.toNat) (by omega)
 omega
theorem waves_H {c : Cab} {f : Flt} {win : Int} (h : fltV c f) : (∀ w ∈ wavesS c f win, wvH c w ∧ w.1 ≤ f.2.2.1 + win) ∧ (wavesS c f win).length ≤ 4374 :=
 ⟨bfs_H h.1 (initS_H h), by have := bfs_len (last := f.2.2.1 + win) h.1 (initS_H h) (Nat.le_refl _); rw [initS_wt] at this; exact this⟩
abbrev G67 : Gam := G66
theorem g67 [Sx.Dr] : GamOk Tryz.prog G67 := g66
set_option maxHeartbeats 20000000
set_option pp.deepTerms true
set_option pp.maxSteps 1000000
def lateA (p : Option Arr) (a : Arr) : Bool := match p with
 | none => false
 | some b => decide (cmpA a b ≤ 0)
def oneA (p : Option Arr) (a : Arr) : Int := firstS [withinS a.1 0 999999999, endS a.2.1, withinS a.2.2 (-17592186044416) 17592186044416, bif lateA p a then 11 else 0]
def chkGo : Option Arr → List Arr → Int
 | _, [] => 0
 | p, a :: r => if oneA p a = 0 then chkGo (some a) r else oneA p a
def prevA (l : List Arr) (k : Nat) : Option Arr := if k = 0 then none else some (l.getD (k - 1) dA)
def arrE (l : List Arr) : Int := if 2048 < l.length then 5 else chkGo none l
theorem chk_drop {l : List Arr} {k : Nat} (h : k < l.length) : chkGo (prevA l k) (l.drop k) = if oneA (prevA l k) (l.getD k dA) = 0 then chkGo (prevA l (k + 1)) (l.drop (k + 1)) else oneA (prevA l k) (l.getD k dA) := by
 rw [drop_cons (d := dA) h]
 simp only [chkGo]
 have : prevA l (k + 1) = some (l.getD k dA) := by unfold prevA; simp
 rw [this]
theorem prev_succ (l : List Arr) (k : Nat) : prevA l (k + 1) = some (l.getD k dA) := by unfold prevA; simp
theorem late_eq (l : List Arr) (k : Nat) : (bif decide (0 < (k : Int)) then decide (cmpA (l.getD k dA) (l.getD (max 0 ((k : Int) - 1)).toNat dA) ≤ 0) else false) = lateA (prevA l k) (l.getD k dA) := by
 cases k with
 | zero => rfl
 | succ n =>
  rw [prev_succ, decide_eq_true (by omega : (0 : Int) < ((n + 1 : Nat) : Int)), show (max 0 (((n + 1 : Nat) : Int) - 1)).toNat = n by omega]
  rfl
def cArrE : Con := { args := [.val false (.list 107 sArr)], ress := [I], owns := [], pre := fun (l, _) => [l.length ≤ 1000000], spec := fun (l, _) => (arrE l, ()) }
abbrev annArE (l : List Arr) : Ann := { X := Nat, σ := fun k => ⟨1, [(0, .one (.sl 0)), (10, .one (.sl 0)), (11, .one (.int .i64 l.length)), (12, .one (.int .i64 k))], [(0, .imm 107 sArr l)]⟩, inv := fun k => k ≤ l.length ∧ l.length ≤ 2048 ∧ arrE l = chkGo (prevA l k) (l.drop k), mu := fun k => l.length - k }
def vc110_0 (l : List Arr) (x : Nat) := (firstS [withinS (List.getD l x ((0 : Int), ByteArray.mk (Array.mk []), (0 : Int))).1 (0 : Int) (999999999 : Int), endS (List.getD l x ((0 : Int), ByteArray.mk (Array.mk []), (0 : Int))).2.1, withinS (List.getD l x ((0 : Int), ByteArray.mk (Array.mk []), (0 : Int))).2.2 (-17592186044416 : Int) (17592186044416 : Int), bif bif decide ((0 : Int) < (↑x : Int)) then decide (cmpA ((List.getD l x ((0 : Int), ByteArray.mk (Array.mk []), (0 : Int))).1, (List.getD l x ((0 : Int), ByteArray.mk (Array.mk []), (0 : Int))).2.1, (List.getD l x ((0 : Int), ByteArray.mk (Array.mk []), (0 : Int))).2.2) ((List.getD l (Int.toNat (max (0 : Int) ((↑x : Int) - (1 : Int)))) ((0 : Int), ByteArray.mk (Array.mk []), (0 : Int))).1, (List.getD l (Int.toNat (max (0 : Int) ((↑x : Int) - (1 : Int)))) ((0 : Int), ByteArray.mk (Array.mk []), (0 : Int))).2.1, (List.getD l (Int.toNat (max (0 : Int) ((↑x : Int) - (1 : Int)))) ((0 : Int), ByteArray.mk (Array.mk []), (0 : Int))).2.2) ≤ (0 : Int)) else false then (11 : Int) else (0 : Int)] != (0 : Int))
def vc110_1 (l : List Arr) := ((0 : Int), ByteArray.mk (Array.mk []), (0 : Int))
theorem vc110 : ∀ (l : List Arr), wpF Tryz.prog G67 (ann0 (annArE l)) Tryz.f110 cArrE (l, ()) = (List.length l ≤ 1000000 → (decide (2048 < (↑(List.length l) : Int)) = true → 5 = arrE l) ∧ (decide (2048 < (↑(List.length l) : Int)) = false → ∃ (x : Nat), ((↑(List.length l) : Int) = (↑(List.length l) : Int) ∧ 0 = (↑x : Int) ∧ l = l) ∧ (x ≤ List.length l ∧ List.length l ≤ 2048 ∧ arrE l = chkGo (prevA l x) (List.drop x l)) ∧ ∀ (x : Nat), x ≤ List.length l ∧ List.length l ≤ 2048 ∧ arrE l = chkGo (prevA l x) (List.drop x l) → (decide ((↑x : Int) < (↑(List.length l) : Int)) = true → ((0 ≤ (↑x : Int) ∧ (↑x : Int) < (↑(List.length l) : Int)) ∧ 0 ≤ (↑x : Int) ∧ (↑x : Int) < (↑(List.length l) : Int)) ∧ ((decide (0 < (↑x : Int)) = true → (-9223372036854775808) ≤ (↑x : Int) - 1 ∧ (↑x : Int) - (1 : Int) ≤ 9223372036854775807) ∧ (decide (0 < (↑x : Int)) = true → 0 ≤ max 0 ((↑x : Int) - 1) ∧ max 0 ((↑x : Int) - 1) < (↑(List.length l) : Int)) ∧ (decide (0 < (↑x : Int)) = true → 0 ≤ max 0 ((↑x : Int) - 1) ∧ max 0 ((↑x : Int) - 1) < (↑(List.length l) : Int))) ∧ 4 ≤ 1000000 ∧ ((vc110_0 l x) = true → firstS [withinS (List.getD l x (vc110_1 l)).1 0 999999999, endS (List.getD l x (vc110_1 l)).2.1, withinS (List.getD l x (vc110_1 l)).2.2 (-17592186044416) 17592186044416, bif bif decide (0 < (↑x : Int)) then decide (cmpA ((List.getD l x (vc110_1 l)).1, (List.getD l x (vc110_1 l)).2.1, (List.getD l x (vc110_1 l)).2.2) ((List.getD l (Int.toNat (max 0 ((↑x : Int) - 1))) (vc110_1 l)).1, (List.getD l (Int.toNat (max 0 ((↑x : Int) - 1))) (vc110_1 l)).2.1, (List.getD l (Int.toNat (max 0 ((↑x : Int) - 1))) (vc110_1 l)).2.2) ≤ 0) else false then 11 else 0] = arrE l) ∧ ((vc110_0 l x) = false → ((-9223372036854775808) ≤ (↑x : Int) + 1 ∧ (↑x : Int) + (1 : Int) ≤ 9223372036854775807) ∧ ∃ (y : Nat), ((↑(List.length l) : Int) = (↑(List.length l) : Int) ∧ (↑x : Int) + 1 = (↑y : Int) ∧ l = l) ∧ (y ≤ List.length l ∧ List.length l ≤ 2048 ∧ arrE l = chkGo (prevA l y) (List.drop y l)) ∧ List.length l - y < List.length l - x)) ∧ (decide ((↑x : Int) < (↑(List.length l) : Int)) = false → 0 = arrE l))) := by
 intros
 kernel_rfl
theorem wp110 (l : List Arr) : wpF Tryz.prog G67 (ann0 (annArE l)) Tryz.f110 cArrE (l, ()) := by
 refine (vc110 l).mpr ?_
 delta vc110_0 vc110_1
 intro h1
 refine ⟨fun h => ?_, fun h => ?_⟩
 ·have h := of_decide_eq_true h
  unfold arrE; rw [if_pos (by omega)]
 have h : ¬ 2048 < l.length := by have := of_decide_eq_false h; omega
 have eA : arrE l = chkGo none l := by unfold arrE; rw [if_neg h]
 refine ⟨(0 : Nat), ⟨rfl, rfl, rfl⟩, ⟨Nat.zero_le _, by omega, eA⟩, fun (k : Nat) hk => ⟨fun e => ?_, fun e => ?_⟩⟩
 ·have hlt : k < l.length := by simpa using e
  have hd := chk_drop hlt
  have e1 : firstS [withinS (l.getD k dA).1 0 999999999, endS (l.getD k dA).2.1, withinS (l.getD k dA).2.2 (-17592186044416) 17592186044416, bif (bif decide (0 < (k : Int)) then decide (cmpA (l.getD k dA) (l.getD (max 0 ((k : Int) - 1)).toNat dA) ≤ 0) else false) then 11 else 0] = oneA (prevA l k) (l.getD k dA) := by
   rw [late_eq]; rfl
  refine ⟨⟨by omega, by omega⟩, ⟨fun h => by have := of_decide_eq_true h; omega, fun h => by have := of_decide_eq_true h; omega, fun h => by have := of_decide_eq_true h; omega⟩, by omega, fun h => ?_, fun h => ?_⟩
  ·have h : ¬ oneA (prevA l k) (l.getD k dA) = 0 := by rw [← e1]; exact bne_iff_ne.1 h
   rw [hk.2.2, hd, if_neg h]; exact e1
  ·have h : oneA (prevA l k) (l.getD k dA) = 0 := by rw [← e1]; exact bne_eq_false_iff_eq.1 h
   refine ⟨by omega, (k + 1 : Nat), ⟨rfl, by simp, rfl⟩, ⟨by omega, by omega, ?_⟩, by omega⟩
   rw [hk.2.2, hd, if_pos h]
 ·have hge : ¬ k < l.length := by simpa using e
  rw [hk.2.2, List.drop_of_length_le (by omega)]
  rfl
theorem ok110 [Sx.Dr] : Ok Tryz.prog 110 cArrE := ok_of_wp mixed g67 (by kernel_rfl) (by kernel_rfl) (fun xx => ann0 (annArE xx.1)) fun xx => wp110 xx.1
abbrev G68 : Gam := (110, cArrE) :: G67
theorem g68 [Sx.Dr] : GamOk Tryz.prog G68 := .cons ok110 g67
abbrev G69 : Gam := G68
theorem g69 [Sx.Dr] : GamOk Tryz.prog G69 := g68
set_option maxHeartbeats 20000000
def isEnd (e : ByteArray) (a : Arr) : Bool := a.2.1.toList == e.toList
def findA (e : ByteArray) (l : List Arr) : Option Arr := l.find? (isEnd e)
def idxGo (f : Arr → Bool) : List Arr → Nat → Int
 | [], _ => -1
 | a :: r, k => if f a = true then k else idxGo f r (k + 1)
theorem idx_find (f : Arr → Bool) : ∀ (l : List Arr) (k : Nat), (idxGo f l k = -1 ∧ l.find? f = none) ∨ ∃ i, i < l.length ∧ idxGo f l k = ((k + i : Nat) : Int) ∧ l.find? f = some (l.getD i dA)
 | [], k => .inl ⟨rfl, rfl⟩
 | a :: r, k => by
  simp only [idxGo]
  cases h : f a with
  | true => exact .inr ⟨0, by simp, by simp, by simp [h]⟩
  | false =>
   rcases idx_find f r (k + 1) with ⟨h1, h2⟩ | ⟨i, h1, h2, h3⟩
   ·exact .inl ⟨by simpa using h1, by simp [h, h2]⟩
   ·refine .inr ⟨i + 1, by simp only [List.length_cons]; omega, ?_, by simp [h, h3]⟩
    simp only [Bool.false_eq_true, if_false]
    rw [h2]; congr 1; omega
theorem idx_drop {f : Arr → Bool} {l : List Arr} {k : Nat} (h : k < l.length) : idxGo f (l.drop k) k = if f (l.getD k dA) = true then (k : Int) else idxGo f (l.drop (k + 1)) (k + 1) := by
 rw [drop_cons (d := dA) h]; rfl
def cIsEnd : Con := { args := [aA, .ref 9 .str], ress := [Bo], owns := [], pre := fun _ => [], spec := fun (a, e, _) => (isEnd e a, ()) }
theorem vc155 : ∀ (a : Arr) (e : ByteArray), wpF Tryz.prog G69 (na ()) Tryz.f155 cIsEnd (a, e, ()) = ((ByteArray.toList a.2.1 == ByteArray.toList e) = isEnd e a) := by
 intros
 kernel_rfl
theorem wp155 (a : Arr) (e : ByteArray) : wpF Tryz.prog G69 (na ()) Tryz.f155 cIsEnd (a, e, ()) := by
 refine (vc155 a e).mpr ?_
 rfl
theorem ok155 [Sx.Dr] : Ok Tryz.prog 155 cIsEnd := ok_of_wp mixed g69 (by kernel_rfl) (by kernel_rfl) na fun xx => wp155 xx.1 xx.2.1
abbrev G70 : Gam := (155, cIsEnd) :: G69
theorem g70 [Sx.Dr] : GamOk Tryz.prog G70 := .cons ok155 g69
def cIdx : Con := { args := [.val false (.list 107 sArr), .fn [(true, sArr)] Bo], ress := [I], owns := [], pre := fun (l, (q, _), _) => [l.length ≤ 1000000, ∀ x ∈ l, conj (q (x, ()))], spec := fun (l, (_, f), _) => (idxGo (fun x => f (x, ())) l 0, ()) }
abbrev annIdx (l : List Arr) (q : Arr × Unit → List Prop) (f : Arr × Unit → Bool) : Ann := { X := Nat, σ := fun k => ⟨2, [(0, .one (.sl 0)), (1, .one (.fv 1)), (7, .one (.int .i64 l.length)), (8, .one (.int .i64 k))], [(0, .imm 107 sArr l), (1, .afn [(true, sArr)] Bo q f)]⟩, inv := fun k => k ≤ l.length ∧ idxGo (fun x => f (x, ())) l 0 = idxGo (fun x => f (x, ())) (l.drop k) k, mu := fun k => l.length - k }
def vc154_0 (l : List Arr) (q : Arr × Unit → List Prop) (f : Arr × Unit → Bool) (x : Nat) := (((List.getD l x ((0 : Int), ByteArray.mk (Array.mk []), (0 : Int))).1, (List.getD l x ((0 : Int), ByteArray.mk (Array.mk []), (0 : Int))).2.1, (List.getD l x ((0 : Int), ByteArray.mk (Array.mk []), (0 : Int))).2.2), PUnit.unit)
theorem vc154 : ∀ (l : List Arr) (q : Arr × Unit → List Prop) (f : Arr × Unit → Bool), wpF Tryz.prog G70 (ann0 (annIdx l q f)) Tryz.f154 cIdx (l, (q, f), ()) = (List.length l ≤ 1000000 → (∀ (x : Int × ByteArray × Int), x ∈ l → conj (q (x, PUnit.unit))) → ∃ (x : Nat), ((↑(List.length l) : Int) = (↑(List.length l) : Int) ∧ 0 = (↑x : Int) ∧ l = l ∧ (fun (x : (Int × ByteArray × Int) × PUnit) => q x) = q ∧ (fun (x : (Int × ByteArray × Int) × PUnit) => f x) = f) ∧ (x ≤ List.length l ∧ idxGo (fun (x : Arr) => f (x, PUnit.unit)) l 0 = idxGo (fun (x : Arr) => f (x, PUnit.unit)) (List.drop x l) x) ∧ ∀ (x : Nat), x ≤ List.length l ∧ idxGo (fun (x : Arr) => f (x, PUnit.unit)) l 0 = idxGo (fun (x : Arr) => f (x, PUnit.unit)) (List.drop x l) x → (decide ((↑x : Int) < (↑(List.length l) : Int)) = true → ((0 ≤ (↑x : Int) ∧ (↑x : Int) < (↑(List.length l) : Int)) ∧ (0 ≤ (↑x : Int) ∧ (↑x : Int) < (↑(List.length l) : Int)) ∧ conj (q (vc154_0 l q f x))) ∧ (f (vc154_0 l q f x) = true → (↑x : Int) = idxGo (fun (x : Arr) => f (x, PUnit.unit)) l 0) ∧ (f (vc154_0 l q f x) = false → ((-9223372036854775808) ≤ (↑x : Int) + 1 ∧ (↑x : Int) + (1 : Int) ≤ 9223372036854775807) ∧ ∃ (y : Nat), ((↑(List.length l) : Int) = (↑(List.length l) : Int) ∧ (↑x : Int) + 1 = (↑y : Int) ∧ l = l ∧ (fun (x : (Int × ByteArray × Int) × PUnit) => q x) = q ∧ (fun (x : (Int × ByteArray × Int) × PUnit) => f x) = f) ∧ (y ≤ List.length l ∧ idxGo (fun (x : Arr) => f (x, PUnit.unit)) l 0 = idxGo (fun (x : Arr) => f (x, PUnit.unit)) (List.drop y l) y) ∧ List.length l - y < List.length l - x)) ∧ (decide ((↑x : Int) < (↑(List.length l) : Int)) = false → (-1) = idxGo (fun (x : Arr) => f (x, PUnit.unit)) l 0)) := by
 intros
 kernel_rfl
theorem wp154 (l : List Arr) (q : Arr × Unit → List Prop) (f : Arr × Unit → Bool) : wpF Tryz.prog G70 (ann0 (annIdx l q f)) Tryz.f154 cIdx (l, (q, f), ()) := by
 refine (vc154 l q f).mpr ?_
 delta vc154_0
 intro h1 hq
 refine ⟨(0 : Nat), ⟨rfl, rfl, rfl, rfl, rfl⟩, ⟨Nat.zero_le _, rfl⟩, fun (k : Nat) hk => ⟨fun e => ?_, fun e => ?_⟩⟩
 ·have hlt : k < l.length := by simpa using e
  have hd := idx_drop (f := fun x => f (x, ())) hlt
  refine ⟨⟨by omega, by omega, hq (l.getD k dA) (getD_mem hlt)⟩, fun h => ?_, fun h => ?_⟩
  ·have h : f (l.getD k dA, ()) = true := h
   rw [hk.2, hd, if_pos h]
  ·have h : f (l.getD k dA, ()) = false := h
   refine ⟨by omega, (k + 1 : Nat), ⟨rfl, by simp, rfl, rfl, rfl⟩, ⟨by omega, ?_⟩, by omega⟩
   rw [hk.2, hd, if_neg (by rw [h]; decide)]
 ·have hge : ¬ k < l.length := by simpa using e
  rw [hk.2, List.drop_of_length_le (by omega)]
  rfl
theorem ok154 [Sx.Dr] : Ok Tryz.prog 154 cIdx := ok_of_wp mixed g70 (by kernel_rfl) (by kernel_rfl) (fun xx => ann0 (annIdx xx.1 xx.2.1.1 xx.2.1.2)) fun xx => wp154 xx.1 xx.2.1.1 xx.2.1.2
abbrev G71 : Gam := (154, cIdx) :: G70
theorem g71 [Sx.Dr] : GamOk Tryz.prog G71 := .cons ok154 g70
def cAt : Con := { args := [.val false (.list 107 sArr), aS], ress := [(true, sArr), Bo], owns := [], pre := fun (l, _) => [l.length ≤ 1000000], spec := fun (l, e, _) => ((findA e l).getD dA, (findA e l).isSome, ()) }
theorem vc115 : ∀ (l : List Arr) (e : ByteArray), wpF Tryz.prog G71 (na ()) Tryz.f115 cAt (l, e, ()) = (List.length l ≤ 1000000 → (List.length l ≤ 1000000 ∧ ∀ (x : Int × ByteArray × Int), x ∈ l → True) ∧ (decide (idxGo (fun (x : Arr) => isEnd e x) l 0 < 0) = true → (0, ByteArray.mk (Array.mk []), 0) = Option.getD (findA e l) dA ∧ false = Option.isSome (findA e l)) ∧ (decide (idxGo (fun (x : Arr) => isEnd e x) l 0 < 0) = false → ((0 ≤ idxGo (fun (x : Arr) => isEnd e x) l 0 ∧ idxGo (fun (x : Arr) => isEnd e x) l 0 < (↑(List.length l) : Int)) ∧ 0 ≤ idxGo (fun (x : Arr) => isEnd e x) l 0 ∧ idxGo (fun (x : Arr) => isEnd e x) l 0 < (↑(List.length l) : Int)) ∧ ((List.getD l (Int.toNat (idxGo (fun (x : Arr) => isEnd e x) l 0)) (0, ByteArray.mk (Array.mk []), 0)).1, (List.getD l (Int.toNat (idxGo (fun (x : Arr) => isEnd e x) l 0)) (0, ByteArray.mk (Array.mk []), 0)).2.1, (List.getD l (Int.toNat (idxGo (fun (x : Arr) => isEnd e x) l 0)) (0, ByteArray.mk (Array.mk []), 0)).2.2) = Option.getD (findA e l) dA ∧ true = Option.isSome (findA e l))) := by
 intros
 kernel_rfl
theorem wp115 (l : List Arr) (e : ByteArray) : wpF Tryz.prog G71 (na ()) Tryz.f115 cAt (l, e, ()) := by
 refine (vc115 l e).mpr ?_
 intro h1
 have hi := idx_find (isEnd e) l 0
 have hf : findA e l = l.find? (isEnd e) := rfl
 rw [hf]
 refine ⟨⟨h1, fun _ _ => trivial⟩, fun h => ?_, fun h => ?_⟩
 ·have h : idxGo (isEnd e) l 0 < 0 := of_decide_eq_true h
  rcases hi with ⟨_, h2⟩ | ⟨i, _, h2, _⟩
  ·rw [h2]; exact ⟨rfl, rfl⟩
  ·rw [h2] at h; omega
 ·have h : ¬ idxGo (isEnd e) l 0 < 0 := of_decide_eq_false h
  rcases hi with ⟨h2, _⟩ | ⟨i, h3, h2, h4⟩
  ·rw [h2] at h; omega
  ·rw [Nat.zero_add] at h2
   have b : 0 ≤ idxGo (isEnd e) l 0 ∧ idxGo (isEnd e) l 0 < l.length := by rw [h2]; omega
   refine ⟨⟨b, b⟩, ?_, by rw [h4]; rfl⟩
   show l.getD (idxGo (isEnd e) l 0).toNat dA = _
   rw [h4, h2]; rfl
theorem ok115 [Sx.Dr] : Ok Tryz.prog 115 cAt := ok_of_wp mixed g71 (by kernel_rfl) (by kernel_rfl) na fun xx => wp115 xx.1 xx.2.1
abbrev G72 : Gam := (115, cAt) :: G71
theorem g72 [Sx.Dr] : GamOk Tryz.prog G72 := .cons ok115 g71
abbrev G73 : Gam := G72
theorem g73 [Sx.Dr] : GamOk Tryz.prog G73 := g72
abbrev G74 : Gam := G73
theorem g74 [Sx.Dr] : GamOk Tryz.prog G74 := g73
set_option maxHeartbeats 20000000
def isA (e : ByteArray) : Bool := e.toList == sA.toList
def isB (e : ByteArray) : Bool := e.toList == sB.toList
theorem not_both (e : ByteArray) (h : isB e = true) : isA e = false := by
 have h : e.toList = sB.toList := eq_of_beq h
 unfold isA; rw [h, Lib.toList_data, Lib.toList_data]; rfl
def stepF (e : ByteArray) (s : Int) (i : Nat) (r : Int) (p : Int × Int) : Int × Int :=
 bif (bif isB e then decide (s ≤ (i : Int)) else false) then (p.1 * (8 + r), p.2 * 8) else bif (bif isA e then decide ((i : Int) < s) else false) then (p.1 * (8 - r), p.2 * 8) else p
def facGo (e : ByteArray) (s : Int) : Nat → List Int → Int × Int → Int × Int
 | _, [], p => p
 | i, r :: l, p => facGo e s (i + 1) l (stepF e s i r p)
def factS (c : Cab) (s : Int) (e : ByteArray) : Int × Int := facGo e s 0 c.2.1 (1, 1)
theorem fac_drop {e : ByteArray} {s : Int} {l : List Int} {k : Nat} {p : Int × Int} (h : k < l.length) : facGo e s k (l.drop k) p = facGo e s (k + 1) (l.drop (k + 1)) (stepF e s k (l.getD k 0) p) := by
 rw [drop_cons (d := (0 : Int)) h]; rfl
def facOk (k : Nat) (p : Int × Int) : Prop := (0 ≤ p.1 ∧ p.1 ≤ 16 ^ k) ∧ ∃ j, j ≤ k ∧ p.2 = 8 ^ j
theorem facOk_step {k i : Nat} {e : ByteArray} {s r : Int} {p : Int × Int} (h : facOk k p) (hr : -8 ≤ r ∧ r ≤ 8) : facOk (k + 1) (stepF e s i r p) := by
 obtain ⟨⟨h1, h2⟩, j, hj, h3⟩ := h
 have hp : (16 : Int) ^ (k + 1) = 16 ^ k * 16 := Int.pow_succ ..
 have h0 : (0 : Int) ≤ 16 ^ k := Int.le_trans h1 h2
 have key : ∀ q : Int, 0 ≤ q ∧ q ≤ 16 → facOk (k + 1) (p.1 * q, p.2 * 8) := fun q hq => by
  refine ⟨⟨Int.mul_nonneg h1 hq.1, ?_⟩, j + 1, by omega, ?_⟩
  ·rw [hp]; exact Int.mul_le_mul h2 hq.2 hq.1 h0
  ·show p.2 * 8 = _
   rw [h3, Int.pow_succ]
 unfold stepF
 cases (bif isB e then decide (s ≤ (i : Int)) else false) with
 | true => exact key (8 + r) (by omega)
 | false =>
  cases (bif isA e then decide ((i : Int) < s) else false) with
  | true => exact key (8 - r) (by omega)
  | false =>
   refine ⟨⟨h1, ?_⟩, j, by omega, h3⟩
   show p.1 ≤ _
   rw [hp]; omega
theorem pow16 {k : Nat} (h : k ≤ 5) : (16 : Int) ^ k ≤ 1048576 := by
 have : ∀ j, j < 6 → (16 : Int) ^ j ≤ 1048576 := by decide
 exact this k (by omega)
theorem pow8 {k : Nat} (h : k ≤ 5) : 1 ≤ (8 : Int) ^ k ∧ (8 : Int) ^ k ≤ 32768 := by
 have : ∀ j, j < 6 → 1 ≤ (8 : Int) ^ j ∧ (8 : Int) ^ j ≤ 32768 := by decide
 exact this k (by omega)
theorem facOk_bd {k : Nat} {p : Int × Int} (h : facOk k p) (hk : k ≤ 5) : (0 ≤ p.1 ∧ p.1 ≤ 1048576) ∧ 1 ≤ p.2 ∧ p.2 ≤ 32768 := by
 obtain ⟨⟨h1, h2⟩, j, hj, h3⟩ := h
 have := pow16 hk
 have := pow8 (k := j) (by omega)
 rw [h3]; omega
def cFact : Con := { args := [aC, aI, aS], ress := [I, I], owns := [], pre := fun (c, s, _) => [cabS c = 0, -1000 ≤ s ∧ s ≤ 1000], spec := fun (c, s, e, _) => ((factS c s e).1, (factS c s e).2, ()) }
abbrev annFact (c : Cab) (s : Int) (e : ByteArray) : Ann := { X := Nat × Int × Int, σ := fun p => ⟨3, [(1, .one (.int .i64 s)), (2, .one (.str e)), (8, .one (.int .i64 p.2.1)), (9, .one (.int .i64 p.2.2)), (13, .one (.sl 1)), (14, .one (.int .i64 c.2.1.length)), (15, .one (.int .i64 p.1))], [(1, .imm 3 sI c.2.1)]⟩, inv := fun p => p.1 ≤ c.2.1.length ∧ facOk p.1 p.2 ∧ factS c s e = facGo e s p.1 (c.2.1.drop p.1) p.2, mu := fun p => c.2.1.length - p.1 }
theorem vc116 : ∀ (c : Cab) (s : Int) (e : ByteArray), wpF Tryz.prog G74 (ann0 (annFact c s e)) Tryz.f116 cFact (c, s, e, ()) = (cabS c = 0 → (-1000) ≤ s ∧ s ≤ 1000 → ∃ (x : Nat × Int × Int), (s = s ∧ e = e ∧ 1 = x.2.1 ∧ 1 = x.2.2 ∧ (↑(List.length c.2.1) : Int) = (↑(List.length c.2.1) : Int) ∧ 0 = (↑x.1 : Int) ∧ c.2.1 = c.2.1) ∧ (x.1 ≤ List.length c.2.1 ∧ facOk x.1 x.2 ∧ factS c s e = facGo e s x.1 (List.drop x.1 c.2.1) x.2) ∧ ∀ (x : Nat × Int × Int), x.1 ≤ List.length c.2.1 ∧ facOk x.1 x.2 ∧ factS c s e = facGo e s x.1 (List.drop x.1 c.2.1) x.2 → (decide ((↑x.1 : Int) < (↑(List.length c.2.1) : Int)) = true → ((0 ≤ (↑x.1 : Int) ∧ (↑x.1 : Int) < (↑(List.length c.2.1) : Int)) ∧ 0 ≤ (↑x.1 : Int) ∧ (↑x.1 : Int) < (↑(List.length c.2.1) : Int)) ∧ ((bif ByteArray.toList e == ByteArray.toList (ByteArray.mk (Array.mk [(66 : UInt8)])) then decide (s ≤ (↑x.1 : Int)) else false) = true → (((-9223372036854775808 : Int) ≤ 8 + List.getD c.2.1 x.1 0 ∧ 8 + List.getD c.2.1 x.1 (0 : Int) ≤ 9223372036854775807) ∧ (I64 (x.2.1 * (8 + List.getD c.2.1 x.1 0))) ∧ (-9223372036854775808) ≤ x.2.2 * 8 ∧ x.2.2 * (8 : Int) ≤ 9223372036854775807) ∧ ((-9223372036854775808) ≤ (↑x.1 : Int) + 1 ∧ (↑x.1 : Int) + (1 : Int) ≤ 9223372036854775807) ∧ ∃ (y : Nat × Int × Int), (s = s ∧ e = e ∧ x.2.1 * (8 + List.getD c.2.1 x.1 0) = y.2.1 ∧ x.2.2 * 8 = y.2.2 ∧ (↑(List.length c.2.1) : Int) = (↑(List.length c.2.1) : Int) ∧ (↑x.1 : Int) + 1 = (↑y.1 : Int) ∧ c.2.1 = c.2.1) ∧ (y.1 ≤ List.length c.2.1 ∧ facOk y.1 y.2 ∧ factS c s e = facGo e s y.1 (List.drop y.1 c.2.1) y.2) ∧ List.length c.2.1 - y.1 < List.length c.2.1 - x.1) ∧ ((bif ByteArray.toList e == ByteArray.toList (ByteArray.mk (Array.mk [(66 : UInt8)])) then decide (s ≤ (↑x.1 : Int)) else false) = false → ((bif ByteArray.toList e == ByteArray.toList (ByteArray.mk (Array.mk [(65 : UInt8)])) then decide ((↑x.1 : Int) < s) else false) = true → (((-9223372036854775808 : Int) ≤ 8 - List.getD c.2.1 x.1 0 ∧ 8 - List.getD c.2.1 x.1 (0 : Int) ≤ 9223372036854775807) ∧ (I64 (x.2.1 * (8 - List.getD c.2.1 x.1 0))) ∧ (-9223372036854775808) ≤ x.2.2 * 8 ∧ x.2.2 * (8 : Int) ≤ 9223372036854775807) ∧ ((-9223372036854775808) ≤ (↑x.1 : Int) + 1 ∧ (↑x.1 : Int) + (1 : Int) ≤ 9223372036854775807) ∧ ∃ (y : Nat × Int × Int), (s = s ∧ e = e ∧ x.2.1 * (8 - List.getD c.2.1 x.1 0) = y.2.1 ∧ x.2.2 * 8 = y.2.2 ∧ (↑(List.length c.2.1) : Int) = (↑(List.length c.2.1) : Int) ∧ (↑x.1 : Int) + 1 = (↑y.1 : Int) ∧ c.2.1 = c.2.1) ∧ (y.1 ≤ List.length c.2.1 ∧ facOk y.1 y.2 ∧ factS c s e = facGo e s y.1 (List.drop y.1 c.2.1) y.2) ∧ List.length c.2.1 - y.1 < List.length c.2.1 - x.1) ∧ ((bif ByteArray.toList e == ByteArray.toList (ByteArray.mk (Array.mk [(65 : UInt8)])) then decide ((↑x.1 : Int) < s) else false) = false → ((-9223372036854775808) ≤ (↑x.1 : Int) + 1 ∧ (↑x.1 : Int) + (1 : Int) ≤ 9223372036854775807) ∧ ∃ (y : Nat × Int × Int), (s = s ∧ e = e ∧ x.2.1 = y.2.1 ∧ x.2.2 = y.2.2 ∧ (↑(List.length c.2.1) : Int) = (↑(List.length c.2.1) : Int) ∧ (↑x.1 : Int) + 1 = (↑y.1 : Int) ∧ c.2.1 = c.2.1) ∧ (y.1 ≤ List.length c.2.1 ∧ facOk y.1 y.2 ∧ factS c s e = facGo e s y.1 (List.drop y.1 c.2.1) y.2) ∧ List.length c.2.1 - y.1 < List.length c.2.1 - x.1))) ∧ (decide ((↑x.1 : Int) < (↑(List.length c.2.1) : Int)) = false → x.2.1 = (factS c s e).1 ∧ x.2.2 = (factS c s e).2)) := by
 intros
 kernel_rfl
theorem wp116 (c : Cab) (s : Int) (e : ByteArray) : wpF Tryz.prog G74 (ann0 (annFact c s e)) Tryz.f116 cFact (c, s, e, ()) := by
 refine (vc116 c s e).mpr ?_
 delta I64
 intro h hs
 have hv : cabV c := cabS_V h
 obtain ⟨v1, v2, v3, v4, v5, _⟩ := id hv
 refine ⟨((0 : Nat), (1 : Int), (1 : Int)), ⟨rfl, rfl, rfl, rfl, rfl, rfl, rfl⟩, ⟨Nat.zero_le _, ⟨⟨by decide, by decide⟩, 0, Nat.le_refl _, rfl⟩, rfl⟩, fun p hp => ?_⟩
 obtain ⟨k, n, d⟩ := p
 obtain ⟨i1, i2, i3⟩ := hp
 replace i1 : k ≤ c.2.1.length := i1
 replace i2 : facOk k (n, d) := i2
 replace i3 : factS c s e = facGo e s k (c.2.1.drop k) (n, d) := i3
 refine ⟨fun e1 => ?_, fun e1 => ?_⟩
 ·have hlt : k < c.2.1.length := by
   have e1 : (k : Int) < c.2.1.length := of_decide_eq_true e1
   omega
  have hr := v5 _ (getD_mem (d := (0 : Int)) hlt)
  have hd := fac_drop (e := e) (s := s) (p := (n, d)) hlt
  have ho := facOk_step (i := k) (e := e) (s := s) i2 hr
  have hb := facOk_bd ho (by omega)
  rw [hd] at i3
  have kk : 0 ≤ (k : Int) ∧ (k : Int) < c.2.1.length := by omega
  have kb : -9223372036854775808 ≤ (k : Int) + 1 ∧ (k : Int) + 1 ≤ 9223372036854775807 := by omega
  dsimp only
  refine ⟨⟨kk, kk⟩, fun c1 => ?_, fun c1 => ⟨fun c2 => ?_, fun c2 => ?_⟩⟩
  ·have c1 : (bif isB e then decide (s ≤ (k : Int)) else false) = true := c1
   have es : stepF e s k (c.2.1.getD k 0) (n, d) = (n * (8 + c.2.1.getD k 0), d * 8) := by unfold stepF; rw [c1]; rfl
   rw [es] at ho hb i3
   dsimp only at hb
   exact ⟨⟨by omega, ⟨by omega, by omega⟩, by omega, by omega⟩, kb, (k + 1, n * (8 + c.2.1.getD k 0), d * 8), ⟨rfl, rfl, rfl, rfl, rfl, by simp, rfl⟩, ⟨hlt, ho, i3⟩, by show c.2.1.length - (k + 1) < c.2.1.length - k; omega⟩
  ·have c1 : (bif isB e then decide (s ≤ (k : Int)) else false) = false := c1
   have c2 : (bif isA e then decide ((k : Int) < s) else false) = true := c2
   have es : stepF e s k (c.2.1.getD k 0) (n, d) = (n * (8 - c.2.1.getD k 0), d * 8) := by unfold stepF; rw [c1, c2]; rfl
   rw [es] at ho hb i3
   dsimp only at hb
   exact ⟨⟨by omega, ⟨by omega, by omega⟩, by omega, by omega⟩, kb, (k + 1, n * (8 - c.2.1.getD k 0), d * 8), ⟨rfl, rfl, rfl, rfl, rfl, by simp, rfl⟩, ⟨hlt, ho, i3⟩, by show c.2.1.length - (k + 1) < c.2.1.length - k; omega⟩
  ·have c1 : (bif isB e then decide (s ≤ (k : Int)) else false) = false := c1
   have c2 : (bif isA e then decide ((k : Int) < s) else false) = false := c2
   have es : stepF e s k (c.2.1.getD k 0) (n, d) = (n, d) := by unfold stepF; rw [c1, c2]; rfl
   rw [es] at ho i3
   exact ⟨kb, (k + 1, n, d), ⟨rfl, rfl, rfl, rfl, rfl, by simp, rfl⟩, ⟨hlt, ho, i3⟩, by show c.2.1.length - (k + 1) < c.2.1.length - k; omega⟩
 ·have hge : ¬ k < c.2.1.length := by
   have e1 : ¬ (k : Int) < c.2.1.length := of_decide_eq_false e1
   omega
  rw [i3, List.drop_of_length_le (by omega)]
  exact ⟨rfl, rfl⟩
theorem ok116 [Sx.Dr] : Ok Tryz.prog 116 cFact := ok_of_wp mixed g74 (by kernel_rfl) (by kernel_rfl) (fun xx => ann0 (annFact xx.1 xx.2.1 xx.2.2.1)) fun xx => wp116 xx.1 xx.2.1 xx.2.2.1
abbrev G75 : Gam := (116, cFact) :: G74
theorem g75 [Sx.Dr] : GamOk Tryz.prog G75 := .cons ok116 g74
abbrev G76 : Gam := G75
theorem g76 [Sx.Dr] : GamOk Tryz.prog G76 := g75
set_option maxHeartbeats 20000000
def factorE (c : Cab) (s : Int) (e : ByteArray) : Int := firstS [cabS c, secE c s, endS e]
def factorG (c : Cab) (s : Int) (e : ByteArray) : Int × Int := lowestS (factS c s e).1 (factS c s e).2
def factorF (c : Cab) (s : Int) (e : ByteArray) : Int × Int := if factorE c s e = 0 then factorG c s e else (0, 0)
theorem facGo_ok {e : ByteArray} {s : Int} : ∀ {l : List Int} {i k : Nat} {p : Int × Int}, facOk k p → (∀ r ∈ l, -8 ≤ r ∧ r ≤ 8) → facOk (k + l.length) (facGo e s i l p)
 | [], _, _, _, h, _ => h
 | r :: l, i, k, p, h, hl => by
  have := facGo_ok (e := e) (s := s) (l := l) (i := i + 1) (facOk_step (i := i) (e := e) (s := s) h (hl r (by simp))) fun x hx => hl x (by simp [hx])
  rw [show k + 1 + l.length = k + (r :: l).length by simp only [List.length_cons]; omega] at this
  exact this
theorem factS_ok {c : Cab} {s : Int} {e : ByteArray} (hv : cabV c) : facOk c.2.1.length (factS c s e) := by
 have := facGo_ok (e := e) (s := s) (l := c.2.1) (i := 0) (k := 0) (p := (1, 1)) ⟨⟨by decide, by decide⟩, 0, Nat.le_refl _, rfl⟩ hv.2.2.2.2.1
 rwa [Nat.zero_add] at this
theorem factS_bd {c : Cab} {s : Int} {e : ByteArray} (hv : cabV c) : (0 ≤ (factS c s e).1 ∧ (factS c s e).1 ≤ 1048576) ∧ 1 ≤ (factS c s e).2 ∧ (factS c s e).2 ≤ 32768 :=
 facOk_bd (factS_ok hv) (by have := hv.2.1; have := hv.2.2.2.1; omega)
theorem factorE_zero {c : Cab} {s : Int} {e : ByteArray} (h : factorE c s e = 0) : cabS c = 0 ∧ (0 ≤ s ∧ s < c.1.length) ∧ endS e = 0 := by
 have hz := firstS_zero (show firstS [cabS c, secE c s, endS e] = 0 from h)
 simp only [List.mem_cons, List.not_mem_nil, or_false, forall_eq_or_imp, forall_eq] at hz
 exact ⟨hz.1, secE_zero.1 hz.2.1, hz.2.2⟩
def cFactor : Con := { args := [aC, aI, aS], ress := [Pr, I], owns := [], pre := fun (c, _) => [c.1.length ≤ 1000000, c.2.1.length ≤ 1000000], spec := fun (c, s, e, _) => (factorF c s e, factorE c s e, ()) }
def vc57_0 (c : Cab) (s : Int) (e : ByteArray) := (c.1, c.2.1, c.2.2.1, c.2.2.2)
theorem vc57 : ∀ (c : Cab) (s : Int) (e : ByteArray), wpF Tryz.prog G76 (na ()) Tryz.f57 cFactor (c, s, e, ()) = (List.length c.1 ≤ 1000000 → List.length c.2.1 ≤ 1000000 → (List.length c.1 ≤ 1000000 ∧ List.length c.2.1 ≤ 1000000 ∧ List.length c.1 ≤ 1000000 ∧ 3 ≤ 1000000) ∧ ((firstS [cabS (vc57_0 c s e), secE (vc57_0 c s e) s, endS e] != 0) = true → (0, 0) = factorF c s e ∧ firstS [cabS (vc57_0 c s e), secE (vc57_0 c s e) s, endS e] = factorE c s e) ∧ ((firstS [cabS (vc57_0 c s e), secE (vc57_0 c s e) s, endS e] != 0) = false → (cabS (vc57_0 c s e) = 0 ∧ ((-1000) ≤ s ∧ s ≤ 1000) ∧ ((-9200000000000000000) ≤ (factS (vc57_0 c s e) s e).1 ∧ (factS (vc57_0 c s e) s e).1 ≤ 9200000000000000000) ∧ 0 < (factS (vc57_0 c s e) s e).2 ∧ (factS (vc57_0 c s e) s e).2 ≤ 9200000000000000000) ∧ ((lowestS (factS (vc57_0 c s e) s e).1 (factS (vc57_0 c s e) s e).2).1, (lowestS (factS (vc57_0 c s e) s e).1 (factS (vc57_0 c s e) s e).2).2) = factorF c s e ∧ 0 = factorE c s e)) := by
 intros
 kernel_rfl
theorem wp57 (c : Cab) (s : Int) (e : ByteArray) : wpF Tryz.prog G76 (na ()) Tryz.f57 cFactor (c, s, e, ()) := by
 refine (vc57 c s e).mpr ?_
 delta vc57_0
 intro h1 h2
 refine ⟨⟨h1, h2, h1, by omega⟩, fun h => ?_, fun h => ?_⟩
 ·have h : ¬ factorE c s e = 0 := bne_iff_ne.1 h
  unfold factorF; rw [if_neg h]; exact ⟨rfl, rfl⟩
 ·have h : factorE c s e = 0 := bne_eq_false_iff_eq.1 h
  obtain ⟨hc, hs, _⟩ := factorE_zero h
  have hv : cabV c := cabS_V hc
  have hb := factS_bd (s := s) (e := e) hv
  have hl := hv.2.1
  have b1 : -9200000000000000000 ≤ (factS c s e).1 ∧ (factS c s e).1 ≤ 9200000000000000000 := by omega
  have b2 : 0 < (factS c s e).2 ∧ (factS c s e).2 ≤ 9200000000000000000 := by omega
  unfold factorF; rw [if_pos h]
  exact ⟨⟨hc, by omega, b1, b2⟩, rfl, h.symm⟩
theorem ok57 [Sx.Dr] : Ok Tryz.prog 57 cFactor := ok_of_wp mixed g76 (by kernel_rfl) (by kernel_rfl) na fun xx => wp57 xx.1 xx.2.1 xx.2.2.1
abbrev G77 : Gam := (57, cFactor) :: G76
theorem g77 [Sx.Dr] : GamOk Tryz.prog G77 := .cons ok57 g76
abbrev G78 : Gam := G77
theorem g78 [Sx.Dr] : GamOk Tryz.prog G78 := g77
set_option maxHeartbeats 20000000
def selS (q : Nat → Bool) : Nat → List (Int × Int) → Int → Int
 | _, [], a => a
 | i, x :: r, a => selS q (i + 1) r (bif q i then a + x.2 else a)
theorem selS_snoc (q : Nat → Bool) (x : Int × Int) : ∀ (l : List (Int × Int)) (i : Nat) (a : Int), selS q i (l ++ [x]) a = bif q (i + l.length) then selS q i l a + x.2 else selS q i l a
 | [], i, a => by simp [selS]
 | y :: r, i, a => by
  simp only [List.cons_append, selS, List.length_cons]
  rw [selS_snoc q x r, show i + 1 + r.length = i + (r.length + 1) by omega]
theorem selS_add (q : Nat → Bool) : ∀ (l : List (Int × Int)) (i : Nat) (a b : Int), selS q i l (a + b) = selS q i l a + b
 | [], _, _, _ => rfl
 | x :: r, i, a, b => by
  simp only [selS]
  cases q i
  ·simp only [cond_false]; exact selS_add q r (i + 1) a b
  ·simp only [cond_true]
   rw [show a + b + x.2 = (a + x.2) + b by omega]; exact selS_add q r (i + 1) _ b
theorem selS_congr {q q' : Nat → Bool} (h : ∀ i, q i = q' i) (l : List (Int × Int)) (i : Nat) (a : Int) : selS q i l a = selS q' i l a := by
 rw [show q = q' from funext h]
theorem selS_bd {q : Nat → Bool} : ∀ {l : List (Int × Int)} {i : Nat} {a : Int}, (∀ x ∈ l, 1 ≤ x.1 ∧ x.1 ≤ 100000 ∧ 1 ≤ x.2 ∧ x.2 ≤ 64) → a ≤ selS q i l a ∧ selS q i l a ≤ a + 64 * l.length
 | [], _, _, _ => by simp [selS]
 | x :: r, i, a, h => by
  have hx := h x (by simp)
  have ih := selS_bd (q := q) (l := r) (i := i + 1) (a := bif q i then a + x.2 else a) fun y hy => h y (by simp [hy])
  simp only [selS, List.length_cons]
  cases hq : q i
  ·rw [hq] at ih; simp only [cond_false] at ih ⊢; omega
  ·rw [hq] at ih; simp only [cond_true] at ih ⊢; omega
theorem selS_shift {s : Int} : ∀ (l : List (Int × Int)) (i : Nat) (a : Int), (i : Int) ≤ s → s < i + l.length → selS (fun k => decide (s ≤ (k : Int))) i l a = selS (fun k => decide (s < (k : Int))) i l a + (l.getD (s - i).toNat (0, 0)).2
 | [], i, a, h1, h2 => by simp at h2; omega
 | x :: r, i, a, h1, h2 => by
  simp only [selS]
  simp only [List.length_cons] at h2
  rw [decide_eq_false (by omega : ¬ s < (i : Int))]
  simp only [cond_false]
  by_cases e : (i : Int) = s
  ·rw [decide_eq_true (by omega : s ≤ (i : Int)), show (s - (i : Int)).toNat = 0 by omega]
   simp only [cond_true, List.getD_cons_zero]
   rw [selS_add]
   have : ∀ (l : List (Int × Int)) (j : Nat) (a : Int), s < (j : Int) → selS (fun k => decide (s ≤ (k : Int))) j l a = selS (fun k => decide (s < (k : Int))) j l a := by
    intro l
    induction l with
    | nil => intro j a _; rfl
    | cons y t ih =>
     intro j a hj
     simp only [selS]
     rw [decide_eq_true (by omega : s ≤ (j : Int)), decide_eq_true hj]
     exact ih (j + 1) _ (by omega)
   rw [this r (i + 1) a (by omega)]
  ·rw [decide_eq_false (by omega : ¬ s ≤ (i : Int))]
   simp only [cond_false]
   rw [selS_shift r (i + 1) a (by omega) (by omega), show (s - (i : Int)).toNat = (s - ((i + 1 : Nat) : Int)).toNat + 1 by omega, List.getD_cons_succ]
def qP (e : ByteArray) (s : Int) (i : Nat) : Bool := bif (bif isB e then decide (s ≤ (i : Int)) else false) then true else (bif isA e then decide ((i : Int) < s) else false)
def qR (e : ByteArray) (s : Int) (i : Nat) : Bool := bif (bif isA e then decide ((i : Int) < s) else false) then true else (bif isB e then decide (s < (i : Int)) else false)
def tickP (c : Cab) (f : Flt) (e : ByteArray) : Int := bif isA e then selS (qP e f.1) 0 c.1 (f.2.2.1 - f.2.1) + 2 * f.2.1 else selS (qP e f.1) 0 c.1 (f.2.2.1 - f.2.1)
def tickR (c : Cab) (f : Flt) (e : ByteArray) : Int := selS (qR e f.1) 0 c.1 (bif isB e then f.2.2.1 + (c.1.getD f.1.toNat (0, 0)).2 - f.2.1 else f.2.2.1 + f.2.1)
theorem end_AB {e : ByteArray} (h : endS e = 0) : (isA e = true ∧ isB e = false) ∨ (isA e = false ∧ isB e = true) := by
 unfold endS at h
 cases ha : isA e with
 | true =>
  cases hb : isB e with
  | true => have := not_both e hb; rw [ha] at this; cases this
  | false => exact .inl ⟨rfl, rfl⟩
 | false =>
  cases hb : isB e with
  | true => exact .inr ⟨rfl, rfl⟩
  | false =>
   have ha : (e.toList == sA.toList) = false := ha
   have hb : (e.toList == sB.toList) = false := hb
   rw [ha, hb] at h
   cases h
theorem tick_eq {c : Cab} {f : Flt} {e : ByteArray} (hs : 0 ≤ f.1 ∧ f.1 < c.1.length) (he : endS e = 0) : tickP c f e = tickR c f e := by
 unfold tickP tickR
 rcases end_AB he with ⟨ha, hb⟩ | ⟨ha, hb⟩
 ·rw [ha, hb]
  simp only [cond_true, cond_false]
  rw [← selS_add, show f.2.2.1 - f.2.1 + 2 * f.2.1 = f.2.2.1 + f.2.1 by omega]
  refine selS_congr (fun i => ?_) _ _ _
  unfold qP qR; rw [ha, hb]
  cases decide ((i : Int) < f.1) <;> rfl
 ·rw [ha, hb]
  simp only [cond_true, cond_false]
  have e1 : selS (qP e f.1) 0 c.1 (f.2.2.1 - f.2.1) = selS (fun k => decide (f.1 ≤ (k : Int))) 0 c.1 (f.2.2.1 - f.2.1) := selS_congr (fun i => by unfold qP; rw [ha, hb]; cases decide (f.1 ≤ (i : Int)) <;> rfl) _ _ _
  have e2 : ∀ a, selS (qR e f.1) 0 c.1 a = selS (fun k => decide (f.1 < (k : Int))) 0 c.1 a := fun a => selS_congr (fun i => by unfold qR; rw [ha, hb]; rfl) _ _ _
  rw [e1, e2, selS_shift c.1 0 _ (by omega) (by omega), show f.2.2.1 + (c.1.getD f.1.toNat (0, 0)).2 - f.2.1 = (f.2.2.1 - f.2.1) + (c.1.getD f.1.toNat (0, 0)).2 by omega, selS_add, show (f.1 - ((0 : Nat) : Int)).toNat = f.1.toNat by omega]
theorem height_eq {H n d : Int} {j : Nat} (hj : j ≤ 5) (hd : d = 8 ^ j) : H * (262144 : Int).tdiv d * n = (H * 262144 * n).tdiv d := by
 have key : ∀ q : Int, 0 < d → 262144 = d * q → H * (262144 : Int).tdiv d * n = (H * 262144 * n).tdiv d := fun q hd hq => by
  rw [hq, Int.mul_tdiv_cancel_left _ (by omega), show H * (d * q) * n = d * (H * q * n) by rw [Int.mul_left_comm H d q, Int.mul_assoc d], Int.mul_tdiv_cancel_left _ (by omega)]
 have : j = 0 ∨ j = 1 ∨ j = 2 ∨ j = 3 ∨ j = 4 ∨ j = 5 := by omega
 rcases this with rfl | rfl | rfl | rfl | rfl | rfl
 ·exact key 262144 (by rw [hd]; decide) (by rw [hd]; decide)
 ·exact key 32768 (by rw [hd]; decide) (by rw [hd]; decide)
 ·exact key 4096 (by rw [hd]; decide) (by rw [hd]; decide)
 ·exact key 512 (by rw [hd]; decide) (by rw [hd]; decide)
 ·exact key 64 (by rw [hd]; decide) (by rw [hd]; decide)
 ·exact key 8 (by rw [hd]; decide) (by rw [hd]; decide)
def heightR (c : Cab) (f : Flt) (e : ByteArray) : Int := (f.2.2.2 * 262144 * (factS c f.1 e).1).tdiv (factS c f.1 e).2
def dirE (c : Cab) (f : Flt) (e : ByteArray) : Int := firstS [fltS c f, endS e]
def dirG (c : Cab) (f : Flt) (e : ByteArray) : Int × Int := if (factS c f.1 e).1 = 0 then (0, 0) else (tickR c f e, heightR c f e)
def dirGE (c : Cab) (f : Flt) (e : ByteArray) : Int := if (factS c f.1 e).1 = 0 then 7 else 0
def dirF (c : Cab) (f : Flt) (e : ByteArray) : Int × Int := if dirE c f e = 0 then dirG c f e else (0, 0)
def dirEE (c : Cab) (f : Flt) (e : ByteArray) : Int := if dirE c f e = 0 then dirGE c f e else dirE c f e
theorem dirE_zero {c : Cab} {f : Flt} {e : ByteArray} (h : dirE c f e = 0) : fltS c f = 0 ∧ endS e = 0 := by
 have hz := firstS_zero (show firstS [fltS c f, endS e] = 0 from h)
 simp only [List.mem_cons, List.not_mem_nil, or_false, forall_eq_or_imp, forall_eq] at hz
 exact hz
theorem sel_take {q : Nat → Bool} {l : List (Int × Int)} {k : Nat} {a : Int} (h : k < l.length) : selS q 0 (l.take (k + 1)) a = bif q k then selS q 0 (l.take k) a + (l.getD k (0, 0)).2 else selS q 0 (l.take k) a := by
 rw [← take_snoc (d := (0, 0)) h, selS_snoc, Nat.zero_add, List.length_take, Nat.min_eq_left (by omega)]
theorem sel_bd {c : Cab} {q : Nat → Bool} {k : Nat} {a : Int} (hv : cabV c) (ha : -100000 ≤ a ∧ a ≤ 200000) : -100000 ≤ selS q 0 (c.1.take k) a ∧ selS q 0 (c.1.take k) a ≤ 200384 := by
 have h := selS_bd (q := q) (l := c.1.take k) (i := 0) (a := a) fun x hx => hv.2.2.1 x (List.mem_of_mem_take hx)
 have h2 : (c.1.take k).length ≤ c.1.length := by simp; omega
 have h3 := hv.2.1
 omega
theorem ht_bds {c : Cab} {s H : Int} {e : ByteArray} (hv : cabV c) (hH : -1024 ≤ H ∧ H ≤ 1024) : ((factS c s e).2 = 0 → False) ∧ (-9223372036854775808 ≤ (262144 : Int).tdiv (factS c s e).2 ∧ (262144 : Int).tdiv (factS c s e).2 ≤ 9223372036854775807) ∧ (-9223372036854775808 ≤ H * (262144 : Int).tdiv (factS c s e).2 ∧ H * (262144 : Int).tdiv (factS c s e).2 ≤ 9223372036854775807) ∧ -9223372036854775808 ≤ H * (262144 : Int).tdiv (factS c s e).2 * (factS c s e).1 ∧ H * (262144 : Int).tdiv (factS c s e).2 * (factS c s e).1 ≤ 9223372036854775807 := by
 have hb := factS_bd (s := s) (e := e) hv
 have t := tdiv_bd (a := 262144) (g := (factS c s e).2) (B := 262144) ⟨by decide, by decide⟩
 have m1 := mul_bd (A := 1024) (B := 262144) hH t
 have m2 := mul_bd (A := 1024 * 262144) (B := 1048576) m1 (b := (factS c s e).1) ⟨by omega, hb.1.2⟩
 exact ⟨by omega, by omega, by omega, by omega⟩
def cDirect : Con := { args := [aC, aF, aS], ress := [Pr, I], owns := [], pre := fun (c, _) => [c.1.length ≤ 1000000, c.2.1.length ≤ 1000000], spec := fun (c, f, e, _) => (dirF c f e, dirEE c f e, ()) }
abbrev annDir (c : Cab) (f : Flt) (e : ByteArray) : Ann := { X := Nat, σ := fun k => ⟨5, [(2, .one (.str e)), (4, .one (.ptr 3 0)), (6, .one (.ptr 4 0)), (9, .one (.int .i64 (factS c f.1 e).1)), (10, .one (.int .i64 (factS c f.1 e).2)), (11, .one (.int .i64 (selS (qP e f.1) 0 (c.1.take k) (f.2.2.1 - f.2.1)))), (42, .one (.sl 0)), (43, .one (.int .i64 c.1.length)), (44, .one (.int .i64 k))], [(0, .imm 166 sPt c.1), (3, .box 31 [.int .i64 f.1, .int .i64 f.2.1, .int .i64 f.2.2.1, .int .i64 f.2.2.2]), (4, .box 24 [.int .i64 0, .int .i64 0])]⟩, inv := fun k => k ≤ c.1.length ∧ dirE c f e = 0 ∧ (factS c f.1 e).1 ≠ 0, mu := fun k => c.1.length - k }
def vc52_0 (c : Cab) (f : Flt) (e : ByteArray) := (((factS c f.1 e).2 = (0 : Int) → False) ∧ ((-9223372036854775808 : Int) ≤ Int.tdiv (262144 : Int) (factS c f.1 e).2 ∧ Int.tdiv (262144 : Int) (factS c f.1 e).2 ≤ (9223372036854775807 : Int)) ∧ ((-9223372036854775808 : Int) ≤ f.2.2.2 * Int.tdiv (262144 : Int) (factS c f.1 e).2 ∧ f.2.2.2 * Int.tdiv (262144 : Int) (factS c f.1 e).2 ≤ (9223372036854775807 : Int)) ∧ (-9223372036854775808 : Int) ≤ f.2.2.2 * Int.tdiv (262144 : Int) (factS c f.1 e).2 * (factS c f.1 e).1 ∧ f.2.2.2 * Int.tdiv (262144 : Int) (factS c f.1 e).2 * (factS c f.1 e).1 ≤ (9223372036854775807 : Int))
def vc52_1 (c : Cab) (f : Flt) (e : ByteArray) (x : Nat) (y : Nat) := (e = e ∧ (factS c f.1 e).1 = (factS c f.1 e).1 ∧ (factS c f.1 e).2 = (factS c f.1 e).2 ∧ selS (qP e f.1) (0 : Nat) (List.take x c.1) (f.2.2.1 - f.2.1) + (List.getD c.1 x ((0 : Int), (0 : Int))).2 = selS (qP e f.1) (0 : Nat) (List.take y c.1) (f.2.2.1 - f.2.1) ∧ (↑(List.length c.1) : Int) = (↑(List.length c.1) : Int) ∧ (↑x : Int) + (1 : Int) = (↑y : Int) ∧ c.1 = c.1 ∧ f.1 = f.1 ∧ f.2.1 = f.2.1 ∧ f.2.2.1 = f.2.2.1 ∧ f.2.2.2 = f.2.2.2 ∧ (0 : Int) = (0 : Int) ∧ (0 : Int) = (0 : Int))
def vc52_2 (c : Cab) (f : Flt) (e : ByteArray) (x : Nat) := ((-9223372036854775808 : Int) ≤ selS (qP e f.1) (0 : Nat) (List.take x c.1) (f.2.2.1 - f.2.1) + (List.getD c.1 x ((0 : Int), (0 : Int))).2 ∧ selS (qP e f.1) (0 : Nat) (List.take x c.1) (f.2.2.1 - f.2.1) + (List.getD c.1 x ((0 : Int), (0 : Int))).2 ≤ (9223372036854775807 : Int))
def vc52_3 (c : Cab) (f : Flt) (e : ByteArray) := (c.1, c.2.1, c.2.2.1, c.2.2.2)
theorem vc52 : ∀ (c : Cab) (f : Flt) (e : ByteArray), wpF Tryz.prog G78 (ann0 (annDir c f e)) Tryz.f52 cDirect (c, f, e, ()) = (List.length c.1 ≤ 1000000 → List.length c.2.1 ≤ 1000000 → (List.length c.1 ≤ 1000000 ∧ List.length c.2.1 ≤ 1000000 ∧ 2 ≤ 1000000) ∧ ((firstS [fltS (vc52_3 c f e) (f.1, f.2.1, f.2.2.1, f.2.2.2), endS e] != 0) = true → (0, 0) = dirF c f e ∧ firstS [fltS (vc52_3 c f e) (f.1, f.2.1, f.2.2.1, f.2.2.2), endS e] = dirEE c f e) ∧ ((firstS [fltS (vc52_3 c f e) (f.1, f.2.1, f.2.2.1, f.2.2.2), endS e] != 0) = false → (cabS (vc52_3 c f e) = 0 ∧ (-1000) ≤ f.1 ∧ f.1 ≤ 1000) ∧ (((factS (vc52_3 c f e) f.1 e).1 == 0) = true → (0, 0) = dirF c f e ∧ 7 = dirEE c f e) ∧ (((factS (vc52_3 c f e) f.1 e).1 == 0) = false → (I64 (f.2.2.1 - f.2.1)) ∧ ∃ (x : Nat), (e = e ∧ (factS (vc52_3 c f e) f.1 e).1 = (factS c f.1 e).1 ∧ (factS (vc52_3 c f e) f.1 e).2 = (factS c f.1 e).2 ∧ f.2.2.1 - f.2.1 = selS (qP e f.1) 0 (List.take x c.1) (f.2.2.1 - f.2.1) ∧ (↑(List.length c.1) : Int) = (↑(List.length c.1) : Int) ∧ 0 = (↑x : Int) ∧ c.1 = c.1 ∧ f.1 = f.1 ∧ f.2.1 = f.2.1 ∧ f.2.2.1 = f.2.2.1 ∧ f.2.2.2 = f.2.2.2 ∧ (0 : Int) = 0 ∧ (0 : Int) = 0) ∧ (x ≤ List.length c.1 ∧ dirE c f e = 0 ∧ ((factS c f.1 e).1 = 0 → False)) ∧ ∀ (x : Nat), x ≤ List.length c.1 ∧ dirE c f e = 0 ∧ ((factS c f.1 e).1 = 0 → False) → (decide ((↑x : Int) < (↑(List.length c.1) : Int)) = true → ((0 ≤ (↑x : Int) ∧ (↑x : Int) < (↑(List.length c.1) : Int)) ∧ 0 ≤ (↑x : Int) ∧ (↑x : Int) < (↑(List.length c.1) : Int)) ∧ ((bif ByteArray.toList e == ByteArray.toList (ByteArray.mk (Array.mk [(66 : UInt8)])) then decide (f.1 ≤ (↑x : Int)) else false) = true → (vc52_2 c f e x) ∧ ((-9223372036854775808) ≤ (↑x : Int) + 1 ∧ (↑x : Int) + (1 : Int) ≤ 9223372036854775807) ∧ ∃ (y : Nat), (vc52_1 c f e x y) ∧ (y ≤ List.length c.1 ∧ dirE c f e = 0 ∧ ((factS c f.1 e).1 = 0 → False)) ∧ List.length c.1 - y < List.length c.1 - x) ∧ ((bif ByteArray.toList e == ByteArray.toList (ByteArray.mk (Array.mk [(66 : UInt8)])) then decide (f.1 ≤ (↑x : Int)) else false) = false → ((bif ByteArray.toList e == ByteArray.toList (ByteArray.mk (Array.mk [(65 : UInt8)])) then decide ((↑x : Int) < f.1) else false) = true → (vc52_2 c f e x) ∧ ((-9223372036854775808) ≤ (↑x : Int) + 1 ∧ (↑x : Int) + (1 : Int) ≤ 9223372036854775807) ∧ ∃ (y : Nat), (vc52_1 c f e x y) ∧ (y ≤ List.length c.1 ∧ dirE c f e = 0 ∧ ((factS c f.1 e).1 = 0 → False)) ∧ List.length c.1 - y < List.length c.1 - x) ∧ ((bif ByteArray.toList e == ByteArray.toList (ByteArray.mk (Array.mk [(65 : UInt8)])) then decide ((↑x : Int) < f.1) else false) = false → ((-9223372036854775808) ≤ (↑x : Int) + 1 ∧ (↑x : Int) + (1 : Int) ≤ 9223372036854775807) ∧ ∃ (y : Nat), (e = e ∧ (factS c f.1 e).1 = (factS c f.1 e).1 ∧ (factS c f.1 e).2 = (factS c f.1 e).2 ∧ selS (qP e f.1) 0 (List.take x c.1) (f.2.2.1 - f.2.1) = selS (qP e f.1) 0 (List.take y c.1) (f.2.2.1 - f.2.1) ∧ (↑(List.length c.1) : Int) = (↑(List.length c.1) : Int) ∧ (↑x : Int) + 1 = (↑y : Int) ∧ c.1 = c.1 ∧ f.1 = f.1 ∧ f.2.1 = f.2.1 ∧ f.2.2.1 = f.2.2.1 ∧ f.2.2.2 = f.2.2.2 ∧ (0 : Int) = 0 ∧ (0 : Int) = 0) ∧ (y ≤ List.length c.1 ∧ dirE c f e = 0 ∧ ((factS c f.1 e).1 = 0 → False)) ∧ List.length c.1 - y < List.length c.1 - x))) ∧ (decide ((↑x : Int) < (↑(List.length c.1) : Int)) = false → ((ByteArray.toList e == ByteArray.toList (ByteArray.mk (Array.mk [(65 : UInt8)]))) = true → (((-9223372036854775808 : Int) ≤ 2 * f.2.1 ∧ 2 * f.2.1 ≤ 9223372036854775807) ∧ I64 (selS (qP e f.1) 0 (List.take x c.1) (f.2.2.1 - f.2.1) + 2 * f.2.1)) ∧ (vc52_0 c f e) ∧ (selS (qP e f.1) 0 (List.take x c.1) (f.2.2.1 - f.2.1) + 2 * f.2.1, f.2.2.2 * Int.tdiv 262144 (factS c f.1 e).2 * (factS c f.1 e).1) = dirF c f e ∧ 0 = dirEE c f e) ∧ ((ByteArray.toList e == ByteArray.toList (ByteArray.mk (Array.mk [(65 : UInt8)]))) = false → (vc52_0 c f e) ∧ (selS (qP e f.1) 0 (List.take x c.1) (f.2.2.1 - f.2.1), f.2.2.2 * Int.tdiv 262144 (factS c f.1 e).2 * (factS c f.1 e).1) = dirF c f e ∧ 0 = dirEE c f e))))) := by
 intros
 kernel_rfl
theorem wp52 (c : Cab) (f : Flt) (e : ByteArray) : wpF Tryz.prog G78 (ann0 (annDir c f e)) Tryz.f52 cDirect (c, f, e, ()) := by
 refine (vc52 c f e).mpr ?_
 delta vc52_0 vc52_1 vc52_2 vc52_3
 delta I64
 intro h1 h2
 refine ⟨⟨h1, h2, by omega⟩, fun h => ?_, fun h => ?_⟩
 ·have h : ¬ dirE c f e = 0 := bne_iff_ne.1 h
  unfold dirF dirEE; rw [if_neg h, if_neg h]; exact ⟨rfl, rfl⟩
 have h : dirE c f e = 0 := bne_eq_false_iff_eq.1 h
 obtain ⟨hf, he⟩ := dirE_zero h
 obtain ⟨hc, hfv⟩ := fltS_V hf
 have hv := hfv.1
 obtain ⟨_, g1, g2, g3, g4, g5⟩ := id hfv
 have hlen := hv.2.1
 have b := hv.2.2.1 _ (getD_mem (d := (0, 0)) (l := c.1) (k := f.1.toNat) (by omega))
 have eF : dirF c f e = dirG c f e := if_pos h
 have eE : dirEE c f e = dirGE c f e := if_pos h
 refine ⟨⟨hc, by omega⟩, fun e1 => ?_, fun e1 => ?_⟩
 ·have e1 : (factS c f.1 e).1 = 0 := eq_of_beq e1
  rw [eF, eE]; unfold dirG dirGE; rw [if_pos e1, if_pos e1]; exact ⟨rfl, rfl⟩
 have e1 : ¬ (factS c f.1 e).1 = 0 := by
  have e1 : ((factS c f.1 e).1 == 0) = false := e1
  simpa using e1
 refine ⟨by omega, (0 : Nat), ⟨rfl, rfl, rfl, rfl, rfl, rfl, rfl, rfl, rfl, rfl, rfl, rfl, rfl⟩, ⟨Nat.zero_le _, h, e1⟩, fun (k : Nat) hk => ⟨fun hlt => ?_, fun hge => ?_⟩⟩
 ·have hlt : k < c.1.length := by simpa using hlt
  have st := sel_take (q := qP e f.1) (a := f.2.2.1 - f.2.1) hlt
  have sb := sel_bd (q := qP e f.1) (k := k) (a := f.2.2.1 - f.2.1) hv (by omega)
  have xb := hv.2.2.1 _ (getD_mem (d := (0, 0)) hlt)
  refine ⟨⟨by omega, by omega⟩, fun c1 => ?_, fun c1 => ⟨fun c2 => ?_, fun c2 => ?_⟩⟩
  ·have c1 : (bif isB e then decide (f.1 ≤ (k : Int)) else false) = true := c1
   have q : qP e f.1 k = true := by unfold qP; rw [c1]; rfl
   rw [q] at st
   exact ⟨by omega, by omega, (k + 1 : Nat), ⟨rfl, rfl, rfl, st.symm, rfl, by simp, rfl, rfl, rfl, rfl, rfl, rfl, rfl⟩, ⟨hlt, h, e1⟩, by omega⟩
  ·have c1 : (bif isB e then decide (f.1 ≤ (k : Int)) else false) = false := c1
   have c2 : (bif isA e then decide ((k : Int) < f.1) else false) = true := c2
   have q : qP e f.1 k = true := by unfold qP; rw [c1, c2]; rfl
   rw [q] at st
   exact ⟨by omega, by omega, (k + 1 : Nat), ⟨rfl, rfl, rfl, st.symm, rfl, by simp, rfl, rfl, rfl, rfl, rfl, rfl, rfl⟩, ⟨hlt, h, e1⟩, by omega⟩
  ·have c1 : (bif isB e then decide (f.1 ≤ (k : Int)) else false) = false := c1
   have c2 : (bif isA e then decide ((k : Int) < f.1) else false) = false := c2
   have q : qP e f.1 k = false := by unfold qP; rw [c1, c2]; rfl
   rw [q] at st
   exact ⟨by omega, (k + 1 : Nat), ⟨rfl, rfl, rfl, st.symm, rfl, by simp, rfl, rfl, rfl, rfl, rfl, rfl, rfl⟩, ⟨hlt, h, e1⟩, by omega⟩
 ·have hge : ¬ k < c.1.length := by simpa using hge
  have sb := sel_bd (q := qP e f.1) (k := k) (a := f.2.2.1 - f.2.1) hv (by omega)
  have hB := ht_bds (c := c) (s := f.1) (e := e) hv g4
  obtain ⟨_, j, hj, hd⟩ := factS_ok (s := f.1) (e := e) hv
  have hh : f.2.2.2 * (262144 : Int).tdiv (factS c f.1 e).2 * (factS c f.1 e).1 = heightR c f e := height_eq (by have := hv.2.2.2.1; omega) hd
  have ht := tick_eq (c := c) (f := f) (e := e) g1 he
  have eG : dirG c f e = (tickR c f e, heightR c f e) := if_neg e1
  have eGE : dirGE c f e = 0 := if_neg e1
  have et : c.1.take k = c.1 := List.take_of_length_le (by omega)
  refine ⟨fun ha => ?_, fun ha => ?_⟩
  ·have ha : isA e = true := ha
   refine ⟨⟨by omega, by omega⟩, hB, ?_, by rw [eE, eGE]⟩
   rw [eF, eG, ← hh, ← ht, et]
   unfold tickP; rw [ha]; rfl
  ·have ha : isA e = false := ha
   refine ⟨hB, ?_, by rw [eE, eGE]⟩
   rw [eF, eG, ← hh, ← ht, et]
   unfold tickP; rw [ha]; rfl
theorem ok52 [Sx.Dr] : Ok Tryz.prog 52 cDirect := ok_of_wp mixed g78 (by kernel_rfl) (by kernel_rfl) (fun xx => ann0 (annDir xx.1 xx.2.1 xx.2.2.1)) fun xx => wp52 xx.1 xx.2.1 xx.2.2.1
abbrev G79 : Gam := (52, cDirect) :: G78
theorem g79 [Sx.Dr] : GamOk Tryz.prog G79 := .cons ok52 g78
abbrev G80 : Gam := G79
theorem g80 [Sx.Dr] : GamOk Tryz.prog G80 := g79
set_option maxHeartbeats 20000000
abbrev Zon : Type := (Int × Int) × Int × Int × ByteArray
abbrev sZ : Sch := .prod sPt (.prod sI (.prod sI .str))
abbrev aZ : AK := .val true sZ
def zoneS (z : Zon) (n : Int) : Int := firstS [if z.1.1 < 0 ∨ z.1.2 ≤ z.1.1 ∨ n < z.1.2 then 14 else 0, withinS z.2.1 1 1024, withinS z.2.2.1 1 1024, endS z.2.2.2]
theorem zone_cond (z : Zon) (n : Int) : (bif (bif decide (z.1.1 < 0) then true else decide (z.1.2 ≤ z.1.1)) then true else decide (n < z.1.2)) = decide (z.1.1 < 0 ∨ z.1.2 ≤ z.1.1 ∨ n < z.1.2) := by
 by_cases h1 : z.1.1 < 0 <;> by_cases h2 : z.1.2 ≤ z.1.1 <;> by_cases h3 : n < z.1.2 <;> simp [h1, h2, h3]
def cZone : Con := { args := [aZ, aI], ress := [I], owns := [], pre := fun _ => [], spec := fun (z, n, _) => (zoneS z n, ()) }
theorem vc121 : ∀ (z : Zon) (n : Int), wpF Tryz.prog G80 (na ()) Tryz.f121 cZone (z, n, ()) = (4 ≤ 1000000 ∧ firstS [bif bif bif decide (z.1.1 < 0) then true else decide (z.1.2 ≤ z.1.1) then true else decide (n < z.1.2) then 14 else 0, withinS z.2.1 1 1024, withinS z.2.2.1 1 1024, endS z.2.2.2] = zoneS z n) := by
 intros
 kernel_rfl
theorem wp121 (z : Zon) (n : Int) : wpF Tryz.prog G80 (na ()) Tryz.f121 cZone (z, n, ()) := by
 refine (vc121 z n).mpr ?_
 refine ⟨by omega, ?_⟩
 rw [zone_cond]
 unfold zoneS
 by_cases h : z.1.1 < 0 ∨ z.1.2 ≤ z.1.1 ∨ n < z.1.2
 ·rw [decide_eq_true h, if_pos h]; rfl
 ·rw [decide_eq_false h, if_neg h]; rfl
theorem ok121 [Sx.Dr] : Ok Tryz.prog 121 cZone := ok_of_wp mixed g80 (by kernel_rfl) (by kernel_rfl) na fun xx => wp121 xx.1 xx.2.1
abbrev G81 : Gam := (121, cZone) :: G80
theorem g81 [Sx.Dr] : GamOk Tryz.prog G81 := .cons ok121 g80
abbrev G82 : Gam := G81
theorem g82 [Sx.Dr] : GamOk Tryz.prog G82 := g81
theorem zoneS_V {z : Zon} {n : Int} (h : zoneS z n = 0) : (0 ≤ z.1.1 ∧ z.1.1 < z.1.2 ∧ z.1.2 ≤ n) ∧ (1 ≤ z.2.1 ∧ z.2.1 ≤ 1024) ∧ (1 ≤ z.2.2.1 ∧ z.2.2.1 ≤ 1024) ∧ endS z.2.2.2 = 0 := by
 have hz := firstS_zero (show firstS [_, _, _, _] = 0 from h)
 simp only [List.mem_cons, List.not_mem_nil, or_false, forall_eq_or_imp, forall_eq] at hz
 obtain ⟨a1, a2, a3, a4⟩ := hz
 have b2 := within_zero.1 a2
 have b3 := within_zero.1 a3
 have b1 : ¬ (z.1.1 < 0 ∨ z.1.2 ≤ z.1.1 ∨ n < z.1.2) := fun q => by rw [if_pos q] at a1; cases a1
 exact ⟨by omega, b2, b3, a4⟩
set_option maxHeartbeats 20000000
def oneS (c : Cab) (e : ByteArray) (k : Nat) : Int := (262144 : Int).tdiv (factS c k e).2 * (factS c k e).1
def thStep (c : Cab) (z : Zon) (k : Nat) (p : Int × Int) : Int × Int := if z.1.1 ≤ (k : Int) ∧ (k : Int) < z.1.2 then (p.1, min p.2 (z.2.1 * oneS c z.2.2.2 k)) else (max p.1 (z.2.2.1 * oneS c z.2.2.2 k + 1), p.2)
def thN (c : Cab) (z : Zon) (hi : Int) : Nat → Int × Int
 | 0 => (1, hi)
 | k + 1 => thStep c z k (thN c z hi k)
theorem rel_step {k i : Nat} {e : ByteArray} {s r : Int} {p : Int × Int} (h : facOk k p) (hp : p.1 ≤ 2 ^ k * p.2) (hd : 1 ≤ p.2) (hr : -8 ≤ r ∧ r ≤ 8) : (stepF e s i r p).1 ≤ 2 ^ (k + 1) * (stepF e s i r p).2 ∧ 1 ≤ (stepF e s i r p).2 := by
 obtain ⟨⟨h1, _⟩, _⟩ := h
 rw [Int.pow_succ]
 have h2 : (0 : Int) ≤ 2 ^ k := Int.le_of_lt (Int.pow_pos (by decide))
 generalize (2 : Int) ^ k = y at hp h2 ⊢
 have key : ∀ q : Int, 0 ≤ q ∧ q ≤ 16 → p.1 * q ≤ y * 2 * (p.2 * 8) ∧ 1 ≤ p.2 * 8 := fun q hq => by
  have a1 : p.1 * q ≤ p.1 * 16 := Int.mul_le_mul_of_nonneg_left hq.2 h1
  have a2 : y * 2 * (p.2 * 8) = y * p.2 * 16 := by rw [Int.mul_assoc, show 2 * (p.2 * 8) = p.2 * 16 by omega, ← Int.mul_assoc]
  rw [a2]; omega
 have same : p.1 ≤ y * 2 * p.2 ∧ 1 ≤ p.2 := by
  have a2 : y * 2 * p.2 = y * p.2 * 2 := by rw [Int.mul_assoc, Int.mul_comm 2, ← Int.mul_assoc]
  have a3 : 0 ≤ y * p.2 := Int.mul_nonneg h2 (by omega)
  rw [a2]; omega
 unfold stepF
 cases (bif isB e then decide (s ≤ (i : Int)) else false) with
 | true => exact key (8 + r) (by omega)
 | false =>
  cases (bif isA e then decide ((i : Int) < s) else false) with
  | true => exact key (8 - r) (by omega)
  | false => exact same
theorem rel_go {e : ByteArray} {s : Int} : ∀ {l : List Int} {i k : Nat} {p : Int × Int}, facOk k p → p.1 ≤ 2 ^ k * p.2 → 1 ≤ p.2 → (∀ r ∈ l, -8 ≤ r ∧ r ≤ 8) → (facGo e s i l p).1 ≤ 2 ^ (k + l.length) * (facGo e s i l p).2
 | [], _, _, _, _, h, _, _ => h
 | r :: l, i, k, p, h, hp, hd, hl => by
  have hr := hl r (by simp)
  have st := rel_step (i := i) (e := e) (s := s) h hp hd hr
  have := rel_go (e := e) (s := s) (l := l) (i := i + 1) (facOk_step (i := i) (e := e) (s := s) h hr) st.1 st.2 fun x hx => hl x (by simp [hx])
  rw [show k + 1 + l.length = k + (r :: l).length by simp only [List.length_cons]; omega] at this
  exact this
theorem pow2 {k : Nat} (h : k ≤ 5) : (2 : Int) ^ k ≤ 32 := by
 have : ∀ j, j < 6 → (2 : Int) ^ j ≤ 32 := by decide
 exact this k (by omega)
theorem oneS_bd {c : Cab} {e : ByteArray} {k : Nat} (hv : cabV c) : 0 ≤ oneS c e k ∧ oneS c e k ≤ 8388608 := by
 have hb := factS_bd (s := k) (e := e) hv
 have hr : (factS c k e).1 ≤ 2 ^ (0 + c.2.1.length) * (factS c k e).2 := rel_go (p := (1, 1)) ⟨⟨by decide, by decide⟩, 0, Nat.le_refl _, rfl⟩ (by decide) (by decide) hv.2.2.2.2.1
 have hl : 0 + c.2.1.length ≤ 5 := by have := hv.2.1; have := hv.2.2.2.1; omega
 have h2 := pow2 hl
 have a1 : (2 : Int) ^ (0 + c.2.1.length) * (factS c k e).2 ≤ 32 * (factS c k e).2 := Int.mul_le_mul_of_nonneg_right h2 (by omega)
 obtain ⟨_, j, hj, hd⟩ := factS_ok (s := k) (e := e) hv
 have hu := height_eq (H := 1) (n := (factS c k e).1) (d := (factS c k e).2) (j := j) (by have := hv.2.1; have := hv.2.2.2.1; omega) hd
 rw [Int.one_mul, Int.one_mul] at hu
 have e1 : oneS c e k = (262144 * (factS c k e).1).tdiv (factS c k e).2 := hu
 rw [e1, Int.tdiv_eq_ediv_of_nonneg (by omega)]
 refine ⟨Int.ediv_nonneg (by omega) (by omega), ?_⟩
 exact Int.ediv_le_of_le_mul (by omega) (by omega)
def thE (c : Cab) (z : Zon) : Int := firstS [cabS c, zoneS z c.1.length]
def thG (c : Cab) (z : Zon) : Int × Int := thN c z 1099511627776 c.1.length
def thF (c : Cab) (z : Zon) : Int × Int := if thE c z = 0 then (if (thG c z).2 < (thG c z).1 then (0, 0) else thG c z) else (0, 0)
def thEE (c : Cab) (z : Zon) : Int := if thE c z = 0 then (if (thG c z).2 < (thG c z).1 then 18 else 0) else thE c z
theorem thN_rel {c : Cab} {z : Zon} {A B : Int} (h : B ≤ A) : ∀ k, (thN c z A k).1 = (thN c z B k).1 ∧ (thN c z B k).2 = min B (thN c z A k).2
 | 0 => ⟨rfl, by show B = min B A; omega⟩
 | k + 1 => by
  obtain ⟨h1, h2⟩ := thN_rel (c := c) (z := z) h k
  simp only [thN, thStep]
  split
  ·refine ⟨h1, ?_⟩
   show min (thN c z B k).2 _ = min B (min (thN c z A k).2 _)
   omega
  ·exact ⟨by show max _ _ = max _ _; rw [h1], h2⟩
theorem mul_one_bd {c : Cab} {e : ByteArray} {k : Nat} (hv : cabV c) {n : Int} (hn : 1 ≤ n ∧ n ≤ 1024) : 0 ≤ n * oneS c e k ∧ n * oneS c e k ≤ 8589934592 := by
 have h := oneS_bd (e := e) (k := k) hv
 refine ⟨Int.mul_nonneg (by omega) h.1, ?_⟩
 have := Int.mul_le_mul hn.2 h.2 h.1 (by decide : (0 : Int) ≤ 1024)
 omega
theorem thN_le {c : Cab} {z : Zon} {A : Int} (hv : cabV c) (hz : zoneS z c.1.length = 0) : ∀ k : Nat, z.1.1 < (k : Int) → (thN c z A k).2 ≤ 8589934592
 | 0, h => by have := (zoneS_V hz).1; omega
 | k + 1, h => by
  have hZ := zoneS_V hz
  simp only [thN, thStep]
  by_cases e : z.1.1 = k
  ·rw [if_pos ⟨by omega, by omega⟩]
   have := mul_one_bd (e := z.2.2.2) (k := k) hv hZ.2.1
   show min _ _ ≤ _
   omega
  ·have ih := thN_le (A := A) hv hz k (by omega)
   split
   ·show min _ _ ≤ _
    omega
   ·exact ih
theorem thN_eq {c : Cab} {z : Zon} (hv : cabV c) (hz : zoneS z c.1.length = 0) : thN c z 1152921504606846976 c.1.length = thG c z := by
 have h := thN_rel (c := c) (z := z) (A := 1152921504606846976) (B := 1099511627776) (by decide) c.1.length
 have hl := thN_le (A := 1152921504606846976) hv hz c.1.length (by have := (zoneS_V hz).1; omega)
 unfold thG
 exact Prod.ext h.1 (by rw [h.2]; omega)
theorem thE_zero {c : Cab} {z : Zon} (h : thE c z = 0) : cabS c = 0 ∧ zoneS z c.1.length = 0 := by
 have hz := firstS_zero (show firstS [cabS c, zoneS z c.1.length] = 0 from h)
 simp only [List.mem_cons, List.not_mem_nil, or_false, forall_eq_or_imp, forall_eq] at hz
 exact hz
theorem zin {z : Zon} {k : Nat} : (bif decide (z.1.1 ≤ (k : Int)) then decide ((k : Int) < z.1.2) else false) = decide (z.1.1 ≤ (k : Int) ∧ (k : Int) < z.1.2) := by
 by_cases h1 : z.1.1 ≤ (k : Int) <;> by_cases h2 : (k : Int) < z.1.2 <;> simp [h1, h2]
theorem one_bds {c : Cab} {e : ByteArray} {k : Nat} (hv : cabV c) : ((factS c k e).2 = 0 → False) ∧ (-9223372036854775808 ≤ (262144 : Int).tdiv (factS c k e).2 ∧ (262144 : Int).tdiv (factS c k e).2 ≤ 9223372036854775807) ∧ -9223372036854775808 ≤ oneS c e k ∧ oneS c e k ≤ 9223372036854775807 := by
 have hb := factS_bd (s := k) (e := e) hv
 have t := tdiv_bd (a := 262144) (g := (factS c k e).2) (B := 262144) ⟨by decide, by decide⟩
 have h := oneS_bd (e := e) (k := k) hv
 exact ⟨by omega, by omega, by omega⟩
def cThresh : Con := { args := [aC, aZ], ress := [Pr, I], owns := [], pre := fun (c, _) => [c.1.length ≤ 1000000, c.2.1.length ≤ 1000000], spec := fun (c, z, _) => (thF c z, thEE c z, ()) }
abbrev annThr (c : Cab) (z : Zon) : Ann := { X := Nat, σ := fun k => ⟨6, [(2, .one (.ptr 2 0)), (3, .one (.ptr 3 0)), (4, .one (.ptr 4 0)), (7, .one (.ptr 5 0)), (28, .one (.int .i64 c.1.length)), (29, .one (.int .i64 k))], [(0, .imm 166 sPt c.1), (1, .imm 3 sI c.2.1), (2, .box 37 [.sl 0, .sl 1, .int .i64 c.2.2.1, .int .i64 c.2.2.2]), (3, .box 122 [.int .i64 z.1.1, .int .i64 z.1.2, .int .i64 z.2.1, .int .i64 z.2.2.1, .str z.2.2.2]), (4, .box 66 [.int .i64 0, .int .i64 0]), (5, .box 66 [.int .i64 (thN c z 1152921504606846976 k).1, .int .i64 (thN c z 1152921504606846976 k).2])]⟩, inv := fun k => k ≤ c.1.length ∧ thE c z = 0, mu := fun k => c.1.length - k }
def vc58_0 (c : Cab) (z : Zon) (x : Nat) := (factS (c.1, c.2.1, c.2.2.1, c.2.2.2) (↑x : Int) z.2.2.2)
def vc58_1 (c : Cab) (z : Zon) (x : Nat) := (Int.tdiv (262144 : Int) (vc58_0 c z x).2 * (vc58_0 c z x).1)
theorem vc58 : ∀ (c : Cab) (z : Zon), wpF Tryz.prog G82 (ann0 (annThr c z)) Tryz.f58 cThresh (c, z, ()) = (List.length c.1 ≤ 1000000 → List.length c.2.1 ≤ 1000000 → (List.length c.1 ≤ 1000000 ∧ List.length c.2.1 ≤ 1000000 ∧ 2 ≤ 1000000) ∧ ((firstS [cabS (c.1, c.2.1, c.2.2.1, c.2.2.2), zoneS ((z.1.1, z.1.2), z.2.1, z.2.2.1, z.2.2.2) (↑(List.length c.1) : Int)] != 0) = true → (0, 0) = thF c z ∧ firstS [cabS (c.1, c.2.1, c.2.2.1, c.2.2.2), zoneS ((z.1.1, z.1.2), z.2.1, z.2.2.1, z.2.2.2) (↑(List.length c.1) : Int)] = thEE c z) ∧ ((firstS [cabS (c.1, c.2.1, c.2.2.1, c.2.2.2), zoneS ((z.1.1, z.1.2), z.2.1, z.2.2.1, z.2.2.2) (↑(List.length c.1) : Int)] != 0) = false → ∃ (x : Nat), ((↑(List.length c.1) : Int) = (↑(List.length c.1) : Int) ∧ 0 = (↑x : Int) ∧ c.1 = c.1 ∧ c.2.1 = c.2.1 ∧ c.2.2.1 = c.2.2.1 ∧ c.2.2.2 = c.2.2.2 ∧ z.1.1 = z.1.1 ∧ z.1.2 = z.1.2 ∧ z.2.1 = z.2.1 ∧ z.2.2.1 = z.2.2.1 ∧ z.2.2.2 = z.2.2.2 ∧ (0 : Int) = 0 ∧ (0 : Int) = 0 ∧ 1 = (thN c z 1152921504606846976 x).1 ∧ 1152921504606846976 = (thN c z 1152921504606846976 x).2) ∧ (x ≤ List.length c.1 ∧ thE c z = 0) ∧ ∀ (x : Nat), x ≤ List.length c.1 ∧ thE c z = 0 → (decide ((↑x : Int) < (↑(List.length c.1) : Int)) = true → (cabS (c.1, c.2.1, c.2.2.1, c.2.2.2) = 0 ∧ (-1000) ≤ (↑x : Int) ∧ (↑x : Int) ≤ 1000) ∧ (((vc58_0 c z x).2 = 0 → False) ∧ (I64 (Int.tdiv 262144 (vc58_0 c z x).2)) ∧ I64 (Int.tdiv 262144 (vc58_0 c z x).2 * (vc58_0 c z x).1)) ∧ ((bif decide (z.1.1 ≤ (↑x : Int)) then decide ((↑x : Int) < z.1.2) else false) = true → (I64 (z.2.1 * (vc58_1 c z x))) ∧ ((-9223372036854775808) ≤ (↑x : Int) + 1 ∧ (↑x : Int) + (1 : Int) ≤ 9223372036854775807) ∧ ∃ (y : Nat), ((↑(List.length c.1) : Int) = (↑(List.length c.1) : Int) ∧ (↑x : Int) + 1 = (↑y : Int) ∧ c.1 = c.1 ∧ c.2.1 = c.2.1 ∧ c.2.2.1 = c.2.2.1 ∧ c.2.2.2 = c.2.2.2 ∧ z.1.1 = z.1.1 ∧ z.1.2 = z.1.2 ∧ z.2.1 = z.2.1 ∧ z.2.2.1 = z.2.2.1 ∧ z.2.2.2 = z.2.2.2 ∧ (0 : Int) = 0 ∧ (0 : Int) = 0 ∧ (thN c z 1152921504606846976 x).1 = (thN c z 1152921504606846976 y).1 ∧ min (thN c z 1152921504606846976 x).2 (z.2.1 * (vc58_1 c z x)) = (thN c z 1152921504606846976 y).2) ∧ (y ≤ List.length c.1 ∧ thE c z = 0) ∧ List.length c.1 - y < List.length c.1 - x) ∧ ((bif decide (z.1.1 ≤ (↑x : Int)) then decide ((↑x : Int) < z.1.2) else false) = false → ((I64 (z.2.2.1 * (vc58_1 c z x))) ∧ (-9223372036854775808) ≤ z.2.2.1 * (vc58_1 c z x) + 1 ∧ z.2.2.1 * (vc58_1 c z x) + (1 : Int) ≤ 9223372036854775807) ∧ ((-9223372036854775808) ≤ (↑x : Int) + 1 ∧ (↑x : Int) + (1 : Int) ≤ 9223372036854775807) ∧ ∃ (y : Nat), ((↑(List.length c.1) : Int) = (↑(List.length c.1) : Int) ∧ (↑x : Int) + 1 = (↑y : Int) ∧ c.1 = c.1 ∧ c.2.1 = c.2.1 ∧ c.2.2.1 = c.2.2.1 ∧ c.2.2.2 = c.2.2.2 ∧ z.1.1 = z.1.1 ∧ z.1.2 = z.1.2 ∧ z.2.1 = z.2.1 ∧ z.2.2.1 = z.2.2.1 ∧ z.2.2.2 = z.2.2.2 ∧ (0 : Int) = 0 ∧ (0 : Int) = 0 ∧ max (thN c z 1152921504606846976 x).1 (z.2.2.1 * (vc58_1 c z x) + 1) = (thN c z 1152921504606846976 y).1 ∧ (thN c z 1152921504606846976 x).2 = (thN c z 1152921504606846976 y).2) ∧ (y ≤ List.length c.1 ∧ thE c z = 0) ∧ List.length c.1 - y < List.length c.1 - x)) ∧ (decide ((↑x : Int) < (↑(List.length c.1) : Int)) = false → (decide ((thN c z 1152921504606846976 x).2 < (thN c z 1152921504606846976 x).1) = true → (0, 0) = thF c z ∧ 18 = thEE c z) ∧ (decide ((thN c z 1152921504606846976 x).2 < (thN c z 1152921504606846976 x).1) = false → ((thN c z 1152921504606846976 x).1, (thN c z 1152921504606846976 x).2) = thF c z ∧ 0 = thEE c z)))) := by
 intros
 kernel_rfl
theorem wp58 (c : Cab) (z : Zon) : wpF Tryz.prog G82 (ann0 (annThr c z)) Tryz.f58 cThresh (c, z, ()) := by
 refine (vc58 c z).mpr ?_
 delta vc58_0 vc58_1
 delta I64
 intro h1 h2
 refine ⟨⟨h1, h2, by omega⟩, fun h => ?_, fun h => ?_⟩
 ·have h : ¬ thE c z = 0 := bne_iff_ne.1 h
  unfold thF thEE; rw [if_neg h, if_neg h]; exact ⟨rfl, rfl⟩
 have h : thE c z = 0 := bne_eq_false_iff_eq.1 h
 obtain ⟨hc, hz⟩ := thE_zero h
 have hv : cabV c := cabS_V hc
 have hZ := zoneS_V hz
 have hlen := hv.2.1
 refine ⟨(0 : Nat), ⟨rfl, rfl, rfl, rfl, rfl, rfl, rfl, rfl, rfl, rfl, rfl, rfl, rfl, rfl, rfl⟩, ⟨Nat.zero_le _, h⟩, fun (k : Nat) hk => ⟨fun hlt => ?_, fun hge => ?_⟩⟩
 ·have hlt : k < c.1.length := by simpa using hlt
  have b1 := one_bds (e := z.2.2.2) (k := k) hv
  have b2 := mul_one_bd (e := z.2.2.2) (k := k) hv hZ.2.1
  have b3 := mul_one_bd (e := z.2.2.2) (k := k) hv hZ.2.2.1
  have b2' : -9223372036854775808 ≤ z.2.1 * oneS c z.2.2.2 k ∧ z.2.1 * oneS c z.2.2.2 k ≤ 9223372036854775807 := by omega
  have b3' : (-9223372036854775808 ≤ z.2.2.1 * oneS c z.2.2.2 k ∧ z.2.2.1 * oneS c z.2.2.2 k ≤ 9223372036854775807) ∧ -9223372036854775808 ≤ z.2.2.1 * oneS c z.2.2.2 k + 1 ∧ z.2.2.1 * oneS c z.2.2.2 k + 1 ≤ 9223372036854775807 := by omega
  have st : thN c z 1152921504606846976 (k + 1) = thStep c z k (thN c z 1152921504606846976 k) := rfl
  rw [zin]
  refine ⟨⟨hc, by omega⟩, b1, fun q => ?_, fun q => ?_⟩
  ·have q := of_decide_eq_true q
   have e1 : thStep c z k (thN c z 1152921504606846976 k) = ((thN c z 1152921504606846976 k).1, min (thN c z 1152921504606846976 k).2 (z.2.1 * oneS c z.2.2.2 k)) := if_pos q
   rw [e1] at st
   exact ⟨b2', by omega, (k + 1 : Nat), ⟨rfl, by simp, rfl, rfl, rfl, rfl, rfl, rfl, rfl, rfl, rfl, rfl, rfl, by rw [st], by rw [st]; rfl⟩, ⟨hlt, h⟩, by omega⟩
  ·have q := of_decide_eq_false q
   have e1 : thStep c z k (thN c z 1152921504606846976 k) = (max (thN c z 1152921504606846976 k).1 (z.2.2.1 * oneS c z.2.2.2 k + 1), (thN c z 1152921504606846976 k).2) := if_neg q
   rw [e1] at st
   exact ⟨b3', by omega, (k + 1 : Nat), ⟨rfl, by simp, rfl, rfl, rfl, rfl, rfl, rfl, rfl, rfl, rfl, rfl, rfl, by rw [st]; rfl, by rw [st]⟩, ⟨hlt, h⟩, by omega⟩
 ·have hge : ¬ k < c.1.length := by simpa using hge
  have ek : k = c.1.length := by omega
  rw [ek, thN_eq hv hz]
  have eF : thF c z = if (thG c z).2 < (thG c z).1 then (0, 0) else thG c z := if_pos h
  have eE : thEE c z = if (thG c z).2 < (thG c z).1 then 18 else 0 := if_pos h
  rw [eF, eE]
  refine ⟨fun q => ?_, fun q => ?_⟩
  ·have q := of_decide_eq_true q
   rw [if_pos q, if_pos q]; exact ⟨rfl, rfl⟩
  ·have q := of_decide_eq_false q
   rw [if_neg q, if_neg q]; exact ⟨rfl, rfl⟩
theorem ok58 [Sx.Dr] : Ok Tryz.prog 58 cThresh := ok_of_wp mixed g82 (by kernel_rfl) (by kernel_rfl) (fun xx => ann0 (annThr xx.1 xx.2.1)) fun xx => wp58 xx.1 xx.2.1
abbrev G83 : Gam := (58, cThresh) :: G82
theorem g83 [Sx.Dr] : GamOk Tryz.prog G83 := .cons ok58 g82
set_option maxHeartbeats 20000000
abbrev G84 : Gam := G83
theorem g84 [Sx.Dr] : GamOk Tryz.prog G84 := g83
set_option maxHeartbeats 20000000
def arrB (l : List Arr) : Prop := ∀ a ∈ l, -80000000000000 ≤ a.2.2 ∧ a.2.2 ≤ 80000000000000
theorem chk_bd : ∀ {l : List Arr} {p : Option Arr}, chkGo p l = 0 → arrB l
 | [], _, _ => fun a ha => by simp at ha
 | a :: r, p, h => by
  simp only [chkGo] at h
  split at h
  ·rename_i h0
   have hz := firstS_zero (show firstS [_, _, _, _] = 0 from h0)
   simp only [List.mem_cons, List.not_mem_nil, or_false, forall_eq_or_imp, forall_eq] at hz
   have b := within_zero.1 hz.2.2.1
   intro x hx
   rcases List.mem_cons.1 hx with rfl | hx
   ·exact ⟨by omega, by omega⟩
   ·exact chk_bd h x hx
  ·rename_i h0; exact absurd h h0
theorem arrE_bd {l : List Arr} (h : arrE l = 0) : arrB l ∧ l.length ≤ 2048 := by
 unfold arrE at h
 split at h
 ·cases h
 ·exact ⟨chk_bd h, by omega⟩
theorem find_bd {l : List Arr} (h : arrB l) (e : ByteArray) : -80000000000000 ≤ ((findA e l).getD dA).2.2 ∧ ((findA e l).getD dA).2.2 ≤ 80000000000000 := by
 cases hf : findA e l with
 | none => exact ⟨by decide, by decide⟩
 | some a => exact h a (List.mem_of_find?_eq_some hf)
def tripS (l : List Arr) (e : ByteArray) (t : Int) : Bool := bif (findA e l).isSome then decide (t ≤ max ((findA e l).getD dA).2.2 (0 - ((findA e l).getD dA).2.2)) else false
def cTrip : Con := { args := [.val false (.list 107 sArr), aS, aI], ress := [Bo], owns := [], pre := fun (l, _) => [l.length ≤ 1000000, arrB l], spec := fun (l, e, t, _) => (tripS l e t, ()) }
theorem vc114 : ∀ (l : List Arr) (e : ByteArray) (t : Int), wpF Tryz.prog G84 (na ()) Tryz.f114 cTrip (l, e, t, ()) = (List.length l ≤ 1000000 → arrB l → List.length l ≤ 1000000 ∧ (Option.isSome (findA e l) = true → (-9223372036854775808 : Int) ≤ 0 - (Option.getD (findA e l) dA).2.2 ∧ 0 - (Option.getD (findA e l) dA).2.2 ≤ 9223372036854775807) ∧ (bif Option.isSome (findA e l) then decide (t ≤ max (Option.getD (findA e l) dA).2.2 (0 - (Option.getD (findA e l) dA).2.2)) else false) = tripS l e t) := by
 intros
 kernel_rfl
theorem wp114 (l : List Arr) (e : ByteArray) (t : Int) : wpF Tryz.prog G84 (na ()) Tryz.f114 cTrip (l, e, t, ()) := by
 refine (vc114 l e t).mpr ?_
 intro h1 h2
 have b := find_bd h2 e
 exact ⟨h1, fun _ => by omega, rfl⟩
theorem ok114 [Sx.Dr] : Ok Tryz.prog 114 cTrip := ok_of_wp mixed g84 (by kernel_rfl) (by kernel_rfl) na fun xx => wp114 xx.1 xx.2.1 xx.2.2.1
abbrev G85 : Gam := (114, cTrip) :: G84
theorem g85 [Sx.Dr] : GamOk Tryz.prog G85 := .cons ok114 g84
abbrev G86 : Gam := G85
theorem g86 [Sx.Dr] : GamOk Tryz.prog G86 := g85
abbrev G87 : Gam := G86
theorem g87 [Sx.Dr] : GamOk Tryz.prog G87 := g86
set_option maxHeartbeats 20000000
def okAt (e : ByteArray) (t : Int) (a : Arr) : Bool := bif isEnd e a then decide (a.1 ≤ t) else false
def sumGo (e : ByteArray) (t : Int) : List Arr → Int → Int
 | [], n => n
 | a :: r, n => sumGo e t r (bif okAt e t a then n + a.2.2 else n)
def sumAt (l : List Arr) (e : ByteArray) (t : Int) : Int := sumGo e t l 0
theorem sum_drop {e : ByteArray} {t n : Int} {l : List Arr} {k : Nat} (h : k < l.length) : sumGo e t (l.drop k) n = sumGo e t (l.drop (k + 1)) (bif okAt e t (l.getD k dA) then n + (l.getD k dA).2.2 else n) := by
 rw [drop_cons (d := dA) h]; rfl
abbrev annSum (T : TypeId) (a b i : Tmp) (l : List Arr) (e : ByteArray) (t : Int) : Ann := { X := Nat × Int, σ := fun p => ⟨1, [(1, .one (.str e)), (2, .one (.int .i64 t)), (7, .one (.int .i64 p.2)), (a, .one (.sl 0)), (b, .one (.int .i64 l.length)), (i, .one (.int .i64 p.1))], [(0, .imm T sArr l)]⟩, inv := fun p => p.1 ≤ l.length ∧ (-(80000000000000 * (p.1 : Int)) ≤ p.2 ∧ p.2 ≤ 80000000000000 * p.1) ∧ sumAt l e t = sumGo e t (l.drop p.1) p.2, mu := fun p => l.length - p.1 }
def cSumA (T : TypeId) : Con := { args := [.val false (.list T sArr), aS, aI], ress := [I], owns := [], pre := fun (l, _) => [l.length ≤ 100000, arrB l], spec := fun (l, e, t, _) => (sumAt l e t, ()) }
def vc96_0 (l : List Arr) (e : ByteArray) (t : Int) (x : Nat × Int) := (List.getD l x.1 ((0 : Int), ByteArray.mk (Array.mk []), (0 : Int)))
theorem vc96 : ∀ (l : List Arr) (e : ByteArray) (t : Int), wpF Tryz.prog G87 (ann0 (annSum (107 : TypeId) (10 : Tmp) (11 : Tmp) (12 : Tmp) l e t)) Tryz.f96 (cSumA (107 : TypeId)) (l, e, t, ()) = (List.length l ≤ 100000 → arrB l → ∃ (x : Nat × Int), (e = e ∧ t = t ∧ 0 = x.2 ∧ (↑(List.length l) : Int) = (↑(List.length l) : Int) ∧ 0 = (↑x.1 : Int) ∧ l = l) ∧ (x.1 ≤ List.length l ∧ (-(80000000000000 * (↑x.1 : Int)) ≤ x.2 ∧ x.2 ≤ 80000000000000 * (↑x.1 : Int)) ∧ sumAt l e t = sumGo e t (List.drop x.1 l) x.2) ∧ ∀ (x : Nat × Int), x.1 ≤ List.length l ∧ (-(80000000000000 * (↑x.1 : Int)) ≤ x.2 ∧ x.2 ≤ 80000000000000 * (↑x.1 : Int)) ∧ sumAt l e t = sumGo e t (List.drop x.1 l) x.2 → (decide ((↑x.1 : Int) < (↑(List.length l) : Int)) = true → ((0 ≤ (↑x.1 : Int) ∧ (↑x.1 : Int) < (↑(List.length l) : Int)) ∧ 0 ≤ (↑x.1 : Int) ∧ (↑x.1 : Int) < (↑(List.length l) : Int)) ∧ ((bif ByteArray.toList (vc96_0 l e t x).2.1 == ByteArray.toList e then decide ((vc96_0 l e t x).1 ≤ t) else false) = true → (I64 (x.2 + (vc96_0 l e t x).2.2)) ∧ ((-9223372036854775808) ≤ (↑x.1 : Int) + 1 ∧ (↑x.1 : Int) + (1 : Int) ≤ 9223372036854775807) ∧ ∃ (y : Nat × Int), (e = e ∧ t = t ∧ x.2 + (vc96_0 l e t x).2.2 = y.2 ∧ (↑(List.length l) : Int) = (↑(List.length l) : Int) ∧ (↑x.1 : Int) + 1 = (↑y.1 : Int) ∧ l = l) ∧ (y.1 ≤ List.length l ∧ (-(80000000000000 * (↑y.1 : Int)) ≤ y.2 ∧ y.2 ≤ 80000000000000 * (↑y.1 : Int)) ∧ sumAt l e t = sumGo e t (List.drop y.1 l) y.2) ∧ List.length l - y.1 < List.length l - x.1) ∧ ((bif ByteArray.toList (vc96_0 l e t x).2.1 == ByteArray.toList e then decide ((vc96_0 l e t x).1 ≤ t) else false) = false → ((-9223372036854775808) ≤ (↑x.1 : Int) + 1 ∧ (↑x.1 : Int) + (1 : Int) ≤ 9223372036854775807) ∧ ∃ (y : Nat × Int), (e = e ∧ t = t ∧ x.2 = y.2 ∧ (↑(List.length l) : Int) = (↑(List.length l) : Int) ∧ (↑x.1 : Int) + 1 = (↑y.1 : Int) ∧ l = l) ∧ (y.1 ≤ List.length l ∧ (-(80000000000000 * (↑y.1 : Int)) ≤ y.2 ∧ y.2 ≤ 80000000000000 * (↑y.1 : Int)) ∧ sumAt l e t = sumGo e t (List.drop y.1 l) y.2) ∧ List.length l - y.1 < List.length l - x.1)) ∧ (decide ((↑x.1 : Int) < (↑(List.length l) : Int)) = false → x.2 = sumAt l e t)) := by
 intros
 kernel_rfl
theorem wp96 (l : List Arr) (e : ByteArray) (t : Int) : wpF Tryz.prog G87 (ann0 (annSum 107 10 11 12 l e t)) Tryz.f96 (cSumA 107) (l, e, t, ()) := by
 refine (vc96 l e t).mpr ?_
 delta vc96_0
 delta I64
 intro h1 h2
 refine ⟨((0 : Nat), (0 : Int)), ⟨rfl, rfl, rfl, rfl, rfl, rfl⟩, ⟨Nat.zero_le _, ⟨by decide, by decide⟩, rfl⟩, fun p hp => ?_⟩
 obtain ⟨k, n⟩ := p
 obtain ⟨i1, i2, i3⟩ := hp
 replace i1 : k ≤ l.length := i1
 replace i2 : -(80000000000000 * (k : Int)) ≤ n ∧ n ≤ 80000000000000 * k := i2
 replace i3 : sumAt l e t = sumGo e t (l.drop k) n := i3
 refine ⟨fun h => ?_, fun h => ?_⟩
 ·have hlt : k < l.length := by
   have h : (k : Int) < l.length := of_decide_eq_true h
   omega
  have hd := sum_drop (e := e) (t := t) (n := n) hlt
  have hb := h2 _ (getD_mem (d := dA) hlt)
  have kk : 0 ≤ (k : Int) ∧ (k : Int) < l.length := by omega
  rw [hd] at i3
  refine ⟨⟨kk, kk⟩, fun q => ?_, fun q => ?_⟩
  ·have q : okAt e t (l.getD k dA) = true := q
   rw [q] at i3
   have b1 : -9223372036854775808 ≤ n + (l.getD k dA).2.2 ∧ n + (l.getD k dA).2.2 ≤ 9223372036854775807 := by omega
   have b2 : -(80000000000000 * ((k + 1 : Nat) : Int)) ≤ n + (l.getD k dA).2.2 ∧ n + (l.getD k dA).2.2 ≤ 80000000000000 * ((k + 1 : Nat) : Int) := by omega
   exact ⟨b1, by show -9223372036854775808 ≤ (k : Int) + 1 ∧ (k : Int) + 1 ≤ 9223372036854775807; omega, (k + 1, n + (l.getD k dA).2.2), ⟨rfl, rfl, rfl, rfl, by simp, rfl⟩, ⟨hlt, b2, i3⟩, by show l.length - (k + 1) < l.length - k; omega⟩
  ·have q : okAt e t (l.getD k dA) = false := q
   rw [q] at i3
   have b2 : -(80000000000000 * ((k + 1 : Nat) : Int)) ≤ n ∧ n ≤ 80000000000000 * ((k + 1 : Nat) : Int) := by omega
   exact ⟨by show -9223372036854775808 ≤ (k : Int) + 1 ∧ (k : Int) + 1 ≤ 9223372036854775807; omega, (k + 1, n), ⟨rfl, rfl, rfl, rfl, by simp, rfl⟩, ⟨hlt, b2, i3⟩, by show l.length - (k + 1) < l.length - k; omega⟩
 ·have hge : ¬ k < l.length := by
   have h : ¬ (k : Int) < l.length := of_decide_eq_false h
   omega
  rw [i3, List.drop_of_length_le (by omega)]
  rfl
theorem ok96 [Sx.Dr] : Ok Tryz.prog 96 (cSumA 107) := ok_of_wp mixed g87 (by kernel_rfl) (by kernel_rfl) (fun xx => ann0 (annSum 107 10 11 12 xx.1 xx.2.1 xx.2.2.1)) fun xx => wp96 xx.1 xx.2.1 xx.2.2.1
abbrev G88 : Gam := (96, (cSumA 107)) :: G87
theorem g88 [Sx.Dr] : GamOk Tryz.prog G88 := .cons ok96 g87
abbrev G89 : Gam := G88
theorem g89 [Sx.Dr] : GamOk Tryz.prog G89 := g88
set_option maxHeartbeats 20000000
def okO (l : List Arr) (e : ByteArray) (lim t : Int) : Bool := decide (max (sumAt l e t) (0 - sumAt l e t) < lim)
def openGo (l : List Arr) (e : ByteArray) (lim : Int) : Nat → Int → Option Int
 | 0, _ => none
 | n + 1, t => bif okO l e lim t then some t else openGo l e lim n (t + 1)
def openS (l : List Arr) (e : ByteArray) (t lim w : Int) : Option Int := openGo l e lim (w + 1).toNat t
theorem sumGo_bd {e : ByteArray} {t : Int} : ∀ {l : List Arr} {n : Int}, arrB l → n - 80000000000000 * l.length ≤ sumGo e t l n ∧ sumGo e t l n ≤ n + 80000000000000 * l.length
 | [], n, _ => by simp [sumGo]
 | a :: r, n, h => by
  have ha := h a (by simp)
  have ih := sumGo_bd (e := e) (t := t) (l := r) (n := bif okAt e t a then n + a.2.2 else n) fun x hx => h x (by simp [hx])
  simp only [sumGo, List.length_cons]
  cases hq : okAt e t a
  ·rw [hq] at ih; simp only [cond_false] at ih ⊢; omega
  ·rw [hq] at ih; simp only [cond_true] at ih ⊢; omega
theorem sumAt_bd {l : List Arr} {e : ByteArray} {t : Int} (h : arrB l) (hl : l.length ≤ 100000) : -9223372036854775808 ≤ 0 - sumAt l e t ∧ 0 - sumAt l e t ≤ 9223372036854775807 := by
 have := sumGo_bd (e := e) (t := t) (l := l) (n := 0) h
 unfold sumAt; omega
theorem open_step (l : List Arr) (e : ByteArray) (lim t : Int) {n : Nat} (h : 0 < n) : openGo l e lim n t = bif okO l e lim t then some t else openGo l e lim (n - 1) (t + 1) := by
 cases n with
 | zero => omega
 | succ m => rfl
def cOpens : Con := { args := [.val false (.list 107 sArr), aS, aI, aI, aI], ress := [I, Bo], owns := [], pre := fun (l, _, t, _, w, _) => [l.length ≤ 100000, arrB l, -1000000000 ≤ t ∧ t ≤ 2000000000, 0 ≤ w ∧ w ≤ 100000], spec := fun (l, e, t, lim, w, _) => ((openS l e t lim w).getD 0, (openS l e t lim w).isSome, ()) }
abbrev annOp (l : List Arr) (e : ByteArray) (t lim w : Int) : Ann := { X := Nat, σ := fun k => ⟨1, [(0, .one (.sl 0)), (1, .one (.str e)), (2, .one (.int .i64 t)), (3, .one (.int .i64 lim)), (12, .one (.int .i64 0)), (13, .one (.bool false)), (17, .one (.int .i64 (w + 1))), (18, .one (.int .i64 k))], [(0, .imm 107 sArr l)]⟩, inv := fun k => (k : Int) ≤ w + 1 ∧ openS l e t lim w = openGo l e lim ((w + 1).toNat - k) (t + k), mu := fun k => (w + 1).toNat - k }
theorem vc112 : ∀ (l : List Arr) (e : ByteArray) (t lim w : Int), wpF Tryz.prog G89 (ann0 (annOp l e t lim w)) Tryz.f112 cOpens (l, e, t, lim, w, ()) = (List.length l ≤ 100000 → arrB l → (-1000000000) ≤ t ∧ t ≤ 2000000000 → 0 ≤ w ∧ w ≤ 100000 → ((-9223372036854775808) ≤ w + 1 ∧ w + (1 : Int) ≤ 9223372036854775807) ∧ ∃ (x : Nat), (e = e ∧ t = t ∧ lim = lim ∧ (0 : Int) = 0 ∧ false = false ∧ w + 1 = w + 1 ∧ 0 = (↑x : Int) ∧ l = l) ∧ ((↑x : Int) ≤ w + 1 ∧ openS l e t lim w = openGo l e lim (Int.toNat (w + 1) - x) (t + (↑x : Int))) ∧ ∀ (x : Nat), (↑x : Int) ≤ w + 1 ∧ openS l e t lim w = openGo l e lim (Int.toNat (w + 1) - x) (t + (↑x : Int)) → (decide ((↑x : Int) < w + 1) = true → ((I64 (t + (↑x : Int))) ∧ List.length l ≤ 100000 ∧ arrB l) ∧ ((-9223372036854775808 : Int) ≤ 0 - sumAt l e (t + (↑x : Int)) ∧ 0 - sumAt l e (t + (↑x : Int)) ≤ 9223372036854775807) ∧ (decide (max (sumAt l e (t + (↑x : Int))) (0 - sumAt l e (t + (↑x : Int))) < lim) = true → (I64 (t + (↑x : Int))) ∧ t + (↑x : Int) = Option.getD (openS l e t lim w) 0 ∧ true = Option.isSome (openS l e t lim w)) ∧ (decide (max (sumAt l e (t + (↑x : Int))) (0 - sumAt l e (t + (↑x : Int))) < lim) = false → ((-9223372036854775808) ≤ (↑x : Int) + 1 ∧ (↑x : Int) + (1 : Int) ≤ 9223372036854775807) ∧ ∃ (y : Nat), (e = e ∧ t = t ∧ lim = lim ∧ (0 : Int) = 0 ∧ false = false ∧ w + 1 = w + 1 ∧ (↑x : Int) + 1 = (↑y : Int) ∧ l = l) ∧ ((↑y : Int) ≤ w + 1 ∧ openS l e t lim w = openGo l e lim (Int.toNat (w + 1) - y) (t + (↑y : Int))) ∧ Int.toNat (w + 1) - y < Int.toNat (w + 1) - x)) ∧ (decide ((↑x : Int) < w + 1) = false → 0 = Option.getD (openS l e t lim w) 0 ∧ false = Option.isSome (openS l e t lim w))) := by
 intros
 kernel_rfl
theorem wp112 (l : List Arr) (e : ByteArray) (t lim w : Int) : wpF Tryz.prog G89 (ann0 (annOp l e t lim w)) Tryz.f112 cOpens (l, e, t, lim, w, ()) := by
 refine (vc112 l e t lim w).mpr ?_
 delta I64
 intro h1 h2 h3 h4
 refine ⟨by omega, (0 : Nat), ⟨rfl, rfl, rfl, rfl, rfl, rfl, rfl, rfl⟩, ⟨by show (0 : Int) ≤ w + 1; omega, by unfold openS; rw [Nat.sub_zero]; congr 1; show t = t + ((0 : Nat) : Int); omega⟩, fun (k : Nat) hk => ⟨fun q => ?_, fun q => ?_⟩⟩
 ·have q := of_decide_eq_true q
  have st := open_step l e lim (t + k) (n := (w + 1).toNat - k) (by omega)
  have hb := sumAt_bd (e := e) (t := t + k) h2 h1
  refine ⟨⟨by omega, h1, h2⟩, hb, fun c => ?_, fun c => ?_⟩
  ·have c : okO l e lim (t + k) = true := c
   rw [c] at st
   rw [hk.2, st]
   exact ⟨by omega, rfl, rfl⟩
  ·have c : okO l e lim (t + k) = false := c
   rw [c] at st
   refine ⟨by omega, (k + 1 : Nat), ⟨rfl, rfl, rfl, rfl, rfl, rfl, by simp, rfl⟩, ⟨by omega, ?_⟩, by omega⟩
   rw [hk.2, st]
   show openGo l e lim ((w + 1).toNat - k - 1) (t + k + 1) = _
   rw [show (w + 1).toNat - k - 1 = (w + 1).toNat - (k + 1) by omega, show t + (k : Int) + 1 = t + ((k + 1 : Nat) : Int) by omega]
 ·have q := of_decide_eq_false q
  rw [hk.2, show (w + 1).toNat - k = 0 by omega]
  exact ⟨rfl, rfl⟩
theorem ok112 [Sx.Dr] : Ok Tryz.prog 112 cOpens := ok_of_wp mixed g89 (by kernel_rfl) (by kernel_rfl) (fun xx => ann0 (annOp xx.1 xx.2.1 xx.2.2.1 xx.2.2.2.1 xx.2.2.2.2.1)) fun xx => wp112 xx.1 xx.2.1 xx.2.2.1 xx.2.2.2.1 xx.2.2.2.2.1
abbrev G90 : Gam := (112, cOpens) :: G89
theorem g90 [Sx.Dr] : GamOk Tryz.prog G90 := .cons ok112 g89
set_option maxHeartbeats 20000000
def opnE (l : List Arr) (e : ByteArray) (t lim w : Int) : Int := firstS [arrE l, endS e, withinS t 0 999999999, thrS lim, withinS w 0 1000]
def opnF (l : List Arr) (e : ByteArray) (t lim w : Int) : Int := if opnE l e t lim w = 0 then (openS l e t lim w).getD 0 else 0
def opnEE (l : List Arr) (e : ByteArray) (t lim w : Int) : Int := if opnE l e t lim w = 0 then (bif (openS l e t lim w).isSome then 0 else 7) else opnE l e t lim w
def cOpening : Con := { args := [.val false (.list 107 sArr), aS, aI, aI, aI], ress := [I, I], owns := [], pre := fun (l, _) => [l.length ≤ 1000000], spec := fun (l, e, t, lim, w, _) => (opnF l e t lim w, opnEE l e t lim w, ()) }
theorem vc41 : ∀ (l : List Arr) (e : ByteArray) (t lim w : Int), wpF Tryz.prog G90 (na ()) Tryz.f41 cOpening (l, e, t, lim, w, ()) = (List.length l ≤ 1000000 → (List.length l ≤ 1000000 ∧ 5 ≤ 1000000) ∧ ((firstS [arrE l, endS e, withinS t 0 999999999, thrS lim, withinS w 0 1000] != 0) = true → 0 = opnF l e t lim w ∧ firstS [arrE l, endS e, withinS t 0 999999999, thrS lim, withinS w 0 1000] = opnEE l e t lim w) ∧ ((firstS [arrE l, endS e, withinS t 0 999999999, thrS lim, withinS w 0 1000] != 0) = false → (List.length l ≤ 100000 ∧ arrB l ∧ ((-1000000000) ≤ t ∧ t ≤ 2000000000) ∧ 0 ≤ w ∧ w ≤ 100000) ∧ Option.getD (openS l e t lim w) 0 = opnF l e t lim w ∧ (bif !Option.isSome (openS l e t lim w) then 7 else 0) = opnEE l e t lim w)) := by
 intros
 kernel_rfl
theorem wp41 (l : List Arr) (e : ByteArray) (t lim w : Int) : wpF Tryz.prog G90 (na ()) Tryz.f41 cOpening (l, e, t, lim, w, ()) := by
 refine (vc41 l e t lim w).mpr ?_
 intro h1
 refine ⟨⟨h1, by omega⟩, fun h => ?_, fun h => ?_⟩
 ·have h : ¬ opnE l e t lim w = 0 := bne_iff_ne.1 h
  unfold opnF opnEE; rw [if_neg h, if_neg h]; exact ⟨rfl, rfl⟩
 ·have h : opnE l e t lim w = 0 := bne_eq_false_iff_eq.1 h
  have hz := firstS_zero (show firstS [arrE l, endS e, withinS t 0 999999999, thrS lim, withinS w 0 1000] = 0 from h)
  simp only [List.mem_cons, List.not_mem_nil, or_false, forall_eq_or_imp, forall_eq] at hz
  obtain ⟨a1, a2, a3, a4, a5⟩ := hz
  have b3 := within_zero.1 a3
  have b5 := within_zero.1 a5
  have bA := arrE_bd a1
  unfold opnF opnEE; rw [if_pos h, if_pos h]
  refine ⟨⟨by omega, bA.1, by omega, by omega⟩, rfl, ?_⟩
  cases (openS l e t lim w).isSome <;> rfl
theorem ok41 [Sx.Dr] : Ok Tryz.prog 41 cOpening := ok_of_wp mixed g90 (by kernel_rfl) (by kernel_rfl) na fun xx => wp41 xx.1 xx.2.1 xx.2.2.1 xx.2.2.2.1 xx.2.2.2.2.1
abbrev G91 : Gam := (41, cOpening) :: G90
theorem g91 [Sx.Dr] : GamOk Tryz.prog G91 := .cons ok41 g90
abbrev G92 : Gam := G91
theorem g92 [Sx.Dr] : GamOk Tryz.prog G92 := g91
set_option maxHeartbeats 20000000
abbrev Pln : Type := (Int × Int) × Int × Int × Int
abbrev sPl : Sch := .prod sPt (.prod sI (.prod sI sI))
abbrev aPl : AK := .val true sPl
def plnS (p : Pln) : Int := firstS [thrS p.1.1, thrS p.1.2, withinS p.2.1 0 100000, thrS p.2.2.1, withinS p.2.2.2 0 1000]
def cPln : Con := { args := [aPl], ress := [I], owns := [], pre := fun _ => [], spec := fun (p, _) => (plnS p, ()) }
theorem vc113 : ∀ (p : Pln), wpF Tryz.prog G92 (na ()) Tryz.f113 cPln (p, ()) = (5 ≤ 1000000 ∧ firstS [thrS p.1.1, thrS p.1.2, withinS p.2.1 0 100000, thrS p.2.2.1, withinS p.2.2.2 0 1000] = plnS p) := by
 intros
 kernel_rfl
theorem wp113 (p : Pln) : wpF Tryz.prog G92 (na ()) Tryz.f113 cPln (p, ()) := by
 refine (vc113 p).mpr ?_
 exact ⟨by omega, rfl⟩
theorem ok113 [Sx.Dr] : Ok Tryz.prog 113 cPln := ok_of_wp mixed g92 (by kernel_rfl) (by kernel_rfl) na fun xx => wp113 xx.1
abbrev G93 : Gam := (113, cPln) :: G92
theorem g93 [Sx.Dr] : GamOk Tryz.prog G93 := .cons ok113 g92
abbrev G94 : Gam := G93
theorem g94 [Sx.Dr] : GamOk Tryz.prog G94 := g93
end Go.Proofs.YtcledkhhecdppaaGreatDoor
